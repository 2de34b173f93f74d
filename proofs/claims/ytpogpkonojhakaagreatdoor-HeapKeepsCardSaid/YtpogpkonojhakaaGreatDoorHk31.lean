import Derived.Test.YtpogpkonojhakaaGreatDoorHk00
import Derived.Test.YtpogpkonojhakaaGreatDoorHk15
import Derived.Test.YtpogpkonojhakaaGreatDoorHk29
import Derived.Test.YtpogpkonojhakaaGreatDoorHk30
set_option maxRecDepth 100000
set_option maxHeartbeats 16000000
set_option linter.unusedSimpArgs false
namespace Go.Proofs.YtpogpkonojhakaaGreatDoor
open Go.RowKit Sc
def Gr {α:Type}(V:Nat→α)(p:Nat)(x:α):Nat→α:=fun q=>if q=p then x else V q
theorem Ez {α:Type}(V:Nat→α)(p:Nat)(x:α):Gr V p x p=x:=if_pos rfl
theorem Dr {α:Type}(V:Nat→α){p q:Nat}(x:α)(h:q≠p):Gr V p x q=V q:=if_neg h
theorem SI.U4 {n:Nat}{C a:Nat→ByteArray}{b:ByteArray}{u:Nat→Nat}{V:Nat→Nat×List ByteArray}(h:SI n C b u V){p k:Nat}{rs:List ByteArray}(g:1≤p)(co:∀ q,q≠p→a q=C q)(hk:(Ab (a p)).kind=u p)(i:(Ab (a p)).link=k)(j:(Ab (a p)).Ai=rs):
 SI n a b u (Gr V p (k,rs)):=by
 have f:=co 0 (by omega);refine⟨by rw[f];exact h.k0,by rw[f];exact h.r0,by rw[f];exact h.l0,h.sz,h.bt,fun q c d=>?_,fun q c d=>?_,fun q c d=>?_,h.u0⟩
 ·by_cases e:q=p
  ·rw[e];exact hk
  ·rw[co q e];exact h.kp q c d
 ·by_cases e:q=p
  ·rw[e,Ez];exact i
  ·rw[co q e,Dr _ _ e];exact h.lp q c d
 ·by_cases e:q=p
  ·rw[e,Ez];exact j
  ·rw[co q e,Dr _ _ e];exact h.rp q c d
theorem fK (rs:List ByteArray)(k:Nat)(r:ByteArray)(j:Nat):Pg.Cc (Eo rs k r) j=if j=k then r else Pg.Cc rs j:=by
 unfold Eo;rw[Pg.Ml,Pg.Eh]
theorem sub_le {α:Type}:∀ (l m:List α),l.Nodup→(∀ x∈l,x∈m)→l.length≤m.length
 |[],_,_,_=>Nat.zero_le _
 |a::l,m,hd,hs=>by
  obtain⟨s,t,rfl⟩:=List.append_of_mem (hs a List.mem_cons_self);have hn:=List.nodup_cons.1 hd;have h:=sub_le l (s++t) hn.2 (fun x hx=>by
   have h1:=hs x (List.mem_cons_of_mem _ hx);rw[List.mem_append,List.mem_cons]at h1;rw[List.mem_append];rcases h1 with h1|h1|h1
   ·exact .inl h1
   ·rw[h1]at hx;exact absurd hx hn.1
   ·exact .inr h1)
  rw[List.length_append]at h;rw[List.length_append,List.length_cons,List.length_cons];omega
theorem rJ (n:Nat)(l:List Nat)(b:l.Nodup)(h:∀ x∈l,1≤x∧x<n):l.length+1≤n∨l=[]:=by
 by_cases e:l=[]
 ·exact .inr e
 ·left
  have c:(0::l).Nodup:=List.nodup_cons.2 ⟨fun h1=>absurd (h 0 h1).1 (by omega),b⟩;have a:=sub_le (0::l) (List.range n) c (fun x d=>by
   rw[List.mem_range];rcases List.mem_cons.1 d with h1|h1
   ·have:0<l.length:=List.length_pos_iff.2 e
    have:=h l[0] (List.getElem_mem this);omega
   ·exact(h x h1).2)
  rw[List.length_range,List.length_cons]at a;exact a
structure Hc (n:Nat) (u:Nat→Nat) (V:Nat→Nat×List ByteArray) (l:List Nat):Prop where
 ch:iI n u V l
 nd:l.Nodup
abbrev Gg (l:List Nat):Nat:=(l[l.length-1]?).getD 0
theorem Pj {l:List Nat}(h:0<l.length):Gg l=l[l.length-1]'(by omega):=by
 unfold Gg;rw[List.getElem?_eq_getElem (by omega)];rfl
section
variable {n : Nat} {u : Nat → Nat} {V : Nat → Nat × List ByteArray} {l : List Nat}
theorem Hc.mem (h:Hc n u V l){x:Nat}(a:x∈l):1≤x∧x<n∧u x=2:=by
 obtain⟨j,b,e⟩:=List.getElem_of_mem a;rw[← e];exact h.ch.at_ j b
theorem Hc.off (h:Hc n u V l){b:Nat→Nat}{c:Nat→Nat×List ByteArray}(d:∀ x∈l,b x=u x)(e:∀ x∈l,(c x).1=(V x).1):Hc n b c l:=
 ⟨⟨h.ch.pos,h.ch.len,fun j a=>by rw[d _ (List.getElem_mem a)];exact h.ch.at_ j a,fun j a=>by rw[e _ (List.getElem_mem a)];exact h.ch.ln j a⟩,h.nd⟩
theorem Hc.Ai (h:Hc n u V l)(p:Nat)(rs:List ByteArray):Hc n u (Gr V p ((V p).1,rs)) l:=
 h.off (fun _ _=>rfl) (fun x _=>by
  by_cases e:x=p
  ·rw[e,Ez]
  ·rw[Dr _ _ e])
theorem Hc.one {pg:Nat}(b:1≤pg)(c:pg<n)(d:u pg=2)(e:(V pg).1=0):Hc n u V [pg]:=
 ⟨⟨Nat.zero_lt_one,by show 1≤n;omega,fun j a=>by
   obtain rfl:j=0:=(by simp at a;omega);exact⟨b,c,d⟩,fun j a=>by
   obtain rfl:j=0:=(by simp at a;omega);exact e⟩,by simp⟩
theorem Hc.more (h:Hc n u V l){pg:Nat}(k:1≤pg)(m:pg<n)(q:u pg≠2)(rs:List ByteArray):
 Hc n (Gr u pg 2) (Gr (Gr V (Gg l) (pg,(V (Gg l)).2)) pg (0,rs)) (l++[pg]):=by
 have c:pg∉l:=fun hx=>q (h.mem hx).2.2;have d:(l++[pg]).Nodup:=List.nodup_append.2 ⟨h.nd,by simp,fun a o b p e=>by
  rw[List.mem_singleton]at p;rw[e,p]at o;exact c o⟩
 have r:=h.ch.pos;have f:=Pj r;refine⟨⟨by rw[List.length_append];omega,?_,fun j g=>?_,fun j g=>?_⟩,d⟩
 ·rcases rJ n (l++[pg]) d (fun x hx=>by
   rcases List.mem_append.1 hx with hx|hx
   ·exact⟨(h.mem hx).1,(h.mem hx).2.1⟩
   ·rw[List.mem_singleton]at hx;rw[hx];exact⟨k,m⟩)with h5|h5
  ·omega
  ·simp at h5
 ·rw[List.length_append,List.length_singleton]at g
  by_cases e:j<l.length
  ·rw[List.getElem_append_left e,Dr _ _ (fun i=>c (by rw[← i];exact List.getElem_mem e))]
   exact h.ch.at_ j e
  ·obtain rfl:j=l.length:=by omega
   rw[List.getElem_append_right (Nat.le_refl _)];simp only[Nat.sub_self,List.getElem_cons_zero];exact⟨k,m,Ez _ _ _⟩
 ·rw[List.length_append,List.length_singleton]at g
  by_cases e:j<l.length
  ·rw[List.getElem_append_left e,Dr _ _ (fun i=>c (by rw[← i];exact List.getElem_mem e))]
   by_cases s:j+1<l.length
   ·rw[Dr _ _ (by
     rw[f];exact List.pairwise_iff_getElem.1 h.nd j (l.length-1) e (by omega) (by omega)),h.ch.ln j e,List.getElem?_append_left s]
   ·obtain t:j=l.length-1:=by omega
    subst t;rw[← f,Ez,List.getElem?_append_right (by omega),show l.length-1+1-l.length=0 from by omega]
    rfl
  ·obtain rfl:j=l.length:=by omega
   rw[List.getElem_append_right (Nat.le_refl _),List.getElem?_eq_none (by rw[List.length_append,List.length_singleton];omega)];simp only[Nat.sub_self,List.getElem_cons_zero];rw[Ez];rfl
end
theorem Uq (P:Nat→Prop):∀ n:Nat,∃ m,m≤n∧(∀ j,j<m→¬ P j)∧(m<n→P m)
 |0=>⟨0,Nat.le_refl _,fun _ h=>absurd h (by omega),fun h=>absurd h (by omega)⟩
 |n+1=>by
  obtain⟨m,h1,h2,h3⟩:=Uq P n
  by_cases e:m<n
  ·exact⟨m,by omega,h2,fun _=>h3 e⟩
  ·obtain rfl:m=n:=by omega
   by_cases hp:P m
   ·exact⟨m,by omega,h2,fun _=>hp⟩
   ·refine⟨m+1,Nat.le_refl _,fun j hj=>?_,fun h=>absurd h (by omega)⟩
    by_cases ej:j=m
    ·rw[ej];exact hp
    ·exact h2 j (by omega)
def HV (N n k:Nat)(ids:List Int)(c:Int)(b:ByteArray)(u:Nat→Nat)(V:Nat→Nat×List ByteArray)(s:Tx.St)(fs:List Fr):Prop:=
 ∃ C:Nat→ByteArray,SS N n k ids c s fs C∧SI n C b u V
theorem HV.more {N n k:Nat}{ids:List Int}{c a:Int}{b:ByteArray}{u:Nat→Nat}{V:Nat→Nat×List ByteArray}{s:Tx.St}{fs:List Fr}(h:HV N n k ids c b u V s fs)(d:c≤a):HV N n k ids a b u V s fs:=by
 obtain⟨C,e,f⟩:=h;exact⟨C,e.more d,f⟩
theorem iL {N n k:Nat}{ids:List Int}{c:Int}{C:Nat→ByteArray}{b:ByteArray}{u:Nat→Nat}{V:Nat→Nat×List ByteArray}{s:Tx.St}{fs:List Fr}(d:SS N n k ids c s fs C)(e:SI n C b u V){p:Nat}(f:1≤p)(a:p<n):Jg (C p)=Jf (V p).2:=by
 unfold Jg;rw[if_pos (d.pi.nm p a).is,e.rp p f a]
theorem Wh (p:ByteArray)(o:Ir)(hk:o.kind=1∨o.kind=2∨o.kind=3∨o.kind=6)(a:p.size≤140737488355328)(b:o.new.size≤140737488355328)(w:World)(c:Fv w):
 Cr 167 #[p,Gc o] w (.tuple #[.string (Ca p o).1,.bool (Ca p o).2]):=by
 rcases hk with hk|hk|hk|hk
 ·exact wF p o hk a b w c
 ·exact wG p o hk a b w c
 ·exact iB p o hk a b w
 ·exact wH p o hk a b w c
theorem bX (p:ByteArray)(o:Ir)(hk:o.kind=1∨o.kind=2∨o.kind=3∨o.kind=6)(g:p.size≤140737488355328)(h:o.new.size≤140737488355328)(w:World)(i:Fv w):
 Cr 166 #[p,Gc o] w (.bool (Dg p o)):=by
 have d:=Hq (fun W j=>Wh p o hk g h W j);have f:=Hq (fun W=>My p g W);have HV:=Hq (i.below (Ac w (.cells #[o.kind,o.slot,o.By,o.new] 76)));unfold Dg;generalize Bi p=b at f ⊢;generalize Ca p o=x at d ⊢;obtain⟨m,n⟩:=x;obtain⟨kind,slot,By,new⟩:=o;dsimp only[Gc]at d HV ⊢;clear i h
 cases b with
 |true=>
  go_enter Tryz.func166,Tryz.ntmps166
  go_wp2_with(first|(go_at_call 167;refine(d.out _ HV.out).mono ?_;rintro e k ⟨rfl,a⟩)|(go_at_call 212;refine(f.out _).mono ?_;rintro e l ⟨rfl,c⟩))
  go_ret;exact⟨by simp,Af (Af (Ac _ _) a) c⟩
 |false=>
  go_enter Tryz.func166,Tryz.ntmps166
  go_wp2_with(first|(go_at_call 167;refine(d.out _ HV.out).mono ?_;rintro e k ⟨rfl,a⟩)|(go_at_call 212;refine(f.out _).mono ?_;rintro e l ⟨rfl,c⟩))
  go_ret;exact⟨by simp,Af (Af (Ac _ _) a) c⟩
theorem uF (p:ByteArray)(o:Ir)(hk:o.kind=1∨o.kind=2∨o.kind=3∨o.kind=6)(m:p.size≤140737488355328)(g:o.new.size≤140737488355328)(w:World)(n:Fv w):
 Cr 128 #[p,Gc o] w (Ko (Qa p o)):=by
 have i:=Hq (fun W j=>Wh p o hk m g W j);have f:=Hq (fun W j=>bX p o hk m g W j);have q:=Hq (Ep w o 76);have HV:=Hq (n.below (Ac w (.cells #[o.kind,o.slot,o.By,o.new] 76)));have c:=Hq (fun h=>Ug (p:=p) (o:=o) h);have d:=Hq (fun h=>qQ (p:=p) (o:=o) h);generalize Qa p o=R at c d ⊢;generalize Dg p o=b at f c d;generalize Ca p o=x at i c;obtain⟨t,u⟩:=x;obtain⟨kind,slot,By,new⟩:=o;dsimp only[Gc]at i f HV q ⊢;clear n g
 cases b with
 |true=>
  have k:=Hq (c.out rfl);clear c d;go_enter Tryz.func128,Tryz.ntmps128
  go_wp2_with(first|(go_at_call 166;refine(f.out _ HV.out).mono ?_;rintro e r ⟨rfl,a⟩;obtain⟨c0,s,c2,c3,-⟩:=(q.out.step a).v;dsimp only at c0 s c2 c3)|(go_at_call 167;refine(i.out _ (HV.out.below a)).mono ?_;rintro e y ⟨rfl,l⟩))
  go_ret2;exact⟨by rw[k.out];rfl,Af (Af (Ac _ _) a) l⟩
 |false=>
  have k:=Hq (d.out rfl);clear c d;go_enter Tryz.func128,Tryz.ntmps128
  go_wp2_with((go_at_call 166;refine(f.out _ HV.out).mono ?_;rintro e r ⟨rfl,a⟩))
  go_ret2;exact⟨by rw[k.out];rfl,Af (Ac _ _) a⟩
theorem rK {α:Type}(V:Nat→α){p q:Nat}(x y:α)(h:p≠q):Gr (Gr V p x) q y=Gr (Gr V q y) p x:=by
 funext z
 unfold Gr
 by_cases e:z=q
 ·rw[if_pos e,if_neg (fun a=>h (a.symm.trans e)),if_pos e]
 ·rw[if_neg e,if_neg e]
theorem iM {α:Type}(V:Nat→α)(p:Nat)(x y:α):Gr (Gr V p x) p y=Gr V p y:=by
 funext z
 unfold Gr
 by_cases e:z=p
 ·rw[if_pos e,if_pos e]
 ·rw[if_neg e,if_neg e,if_neg e]
section
variable {N n k : Nat} {ids : List Int} {c : Int} {b : ByteArray} {u : Nat → Nat} {V : Nat → Nat × List ByteArray}
theorem wO (u:Nat→Nat):∀ n:Nat,∃ low,low≤n∧Rm u low∧(low<n→¬ 0<u low):=fun n=>by
 obtain⟨m,a,b,c⟩:=Uq (fun q=>¬ 0<u q) n;exact⟨m,a,fun q d=>Classical.byContradiction fun e=>b q d e,c⟩
theorem Pk (s:Tx.St)(p:SP)(fs:List Fr){C:Nat→ByteArray}(g:SS N n k ids c s fs C)(H:SI n C b u V)(M:c+2524≤(N:Int)*128)(t:Int)(O:t∈ids)(i:Rc.num t)(pg:Nat)(I:1≤pg)(a:pg<n)
 (o:Ir) (hk:o.kind=1∨o.kind=2∨o.kind=3∨o.kind=6) (j:Rc.sl o.slot) (m:o.By.size≤512) (r:o.new.size≤512) (q:ByteArray) (P:Qa (C pg) o=(q,0)) (J:K8 q) (x:Nat) (rs:List ByteArray) (d:Ab q=⟨(Ab (C pg)).lsn,(Ab (C pg)).kind,x,rs⟩) (w:World) (y:Fv w) (h:Am w s p fs):
 Cq 37 #[Ah s p,t,.int .i64 (pg:Int),.agg #[o.kind,o.slot,o.By,o.new]] w (nC (fun s2 fs2 z=>z=0∧HV N n k ids (c+2524) b u (Gr V pg (x,rs)) s2 fs2) w):=by
 have A:=g.pi.nm pg a;have K:=g.pi.n1.2.1;refine(bS s p fs C g M t O pg a ⟨o.kind,o.slot,o.By,o.new⟩ q (fun l v d y=>.change l v t pg _ 1 0 Rc.Cg d y i ⟨by omega,by omega⟩ ⟨by show 1≤o.kind;omega,by show o.kind≤7;omega,j,m,r⟩ (.inl ⟨rfl,rfl,rfl⟩)) J w (fun W Q=>?_) h).mono ?_
 ·have L:=uF (C pg) o hk (by rw[A.size];omega) (by omega) W (y.below Q)
  rw[P]at L;exact L
 ·rintro e w' ⟨R,S,B,l,rfl,D,E,f,F⟩
  have G:=Qh J f.lr;refine⟨R,S,B,0,rfl,D,⟨rfl,_,g.ch f E,H.U4 I (fun z T=>if_neg T) ?_ ?_ ?_⟩,F⟩
  ·rw[if_pos rfl,G.2,d];exact H.kp pg I a
  ·rw[if_pos rfl,G.2,d]
  ·rw[if_pos rfl,G.2,d]
theorem rL (s:Tx.St)(p:SP)(fs:List Fr)(d:HV N n k ids c b u V s fs)(X:c+1262≤(N:Int)*128)(t:Int)(B:t∈ids)(r:Rc.num t)(D:1≤t)(m:Int)(M:Rc.num m)(w:World)(h:Am w s p fs):
 Cq 81 #[Ah s p,t,m] w (nC (fun s2 fs2 z=>z=0∧HV N n k ids (c+1262) b u V s2 fs2) w):=by
 obtain⟨C,d,P⟩:=d;have Q:=d.used;have E:=d.pi.tO;obtain⟨a,R,F⟩:=d.tx.ex B;obtain⟨i,l⟩:∃ i,Tx.Cy s.txns t=some i:=by
  cases S:Tx.Cy s.txns t with
  |none=>exact absurd F (Tx.Q7 S a R)
  |some i=>exact⟨i,rfl⟩
 obtain⟨q,v,-⟩:=Tx.F4 l;have G:=Tx.Oj l q;have f:=List.getElem_mem q;have H:=d.tx.all _ f;have T:Rc.Bx {({Tx.aQ m with txn:=t,prev:=s.txns[i].last}:Rc.Rec)with lsn:=s.log.end_+1}:=.nest _ _ _ _ d.pi.num.1 H.2.1 r M;obtain⟨g2,e,g,Y,Z⟩:=d.pi.log {Tx.aQ m with txn:=t,prev:=s.txns[i].last} T (by show(4:Int)≠9;decide) (by omega);have U:=Tx.sV (s:=s) e;have y:Tx.Tp s t m=({s with log:=g2,txns:=Tx.En s.txns {({Tx.aQ m with txn:=t,prev:=s.txns[i].last}:Rc.Rec)with lsn:=s.log.end_+1}},0):=by
  unfold Tx.Tp Tx.O8;rw[G,if_neg (by simp),if_neg (by rw[d.tx.op _ f];simp)];exact U
 have I:Tx.En s.txns {({Tx.aQ m with txn:=t,prev:=s.txns[i].last}:Rc.Rec)with lsn:=s.log.end_+1}=s.txns.set i ⟨t,s.log.end_+1,m,false⟩:=by
  unfold Tx.En;rw[if_neg (by rw[Classical.not_not];exact⟨D,(by show(1:Int)≤4;decide),(by show(4:Int)≤7;decide)⟩)]
  show(match Tx.Cy s.txns t with|none=>_|some i=>_)=_
  rw[l]
  show(if(4:Int)=7 then _ else _)=_
  rw[if_neg (by decide),List.set_eq_take_append_cons_drop,if_pos q,List.getElem?_eq_getElem q];unfold Tx.O7;rw[Option.getD_some,v,d.tx.op _ f]
  rfl
 rw[I]at y;have B:=nA s p E d.tx.small t m w h.st;rw[y]at B;refine B.mono ?_;rintro e w' ⟨W,rfl,J,⟨A,K,L⟩,O⟩;refine⟨_,W,fs,0,rfl,?_,⟨rfl,C,⟨⟨g.zl,g.zp,g.n1,g.pw,g.nf,g.hd,g.fr,g.nm,g.dk⟩,⟨?_,fun x o=>?_,d.tx.len,fun x o=>?_⟩,d.nf,by show g2.end_≤c+1262;omega⟩,P⟩,O⟩
 ·have o:=h.below O
  exact⟨J,by rw[K];exact o.fn,by rw[A,L];exact o.fr,by rw[A];exact o.ft⟩
 ·show(s.txns.set i _).map _=ids
  rw[← d.tx.tl]
  apply List.ext_getElem?
  intro j;rw[List.getElem?_map,List.getElem?_map]
  by_cases e:i=j
  ·subst e
   rw[List.getElem?_set_self q,List.getElem?_eq_getElem q];exact congrArg some v.symm
  ·rw[List.getElem?_set_ne e]
 ·rcases List.mem_or_eq_of_mem_set o with h4|h4
  ·exact d.tx.all x h4
  ·rw[h4];exact⟨r,d.pi.num.1,M⟩
 ·rcases List.mem_or_eq_of_mem_set o with h4|h4
  ·exact d.tx.op x h4
  ·rw[h4]
theorem rM {s:Tx.St}{fs:List Fr}{C:Nat→ByteArray}(d:SS N n k ids c s fs C)(t:Int):Rc.num (Tx.aP s t):=by
 unfold Tx.aP
 cases a:Tx.Cy s.txns t with
 |none=>rw[Tx.Ts a];exact⟨by decide,by decide⟩
 |some i=>
  obtain⟨b,-,-⟩:=Tx.F4 a;rw[Tx.Oj a b];exact(d.tx.all _ (List.getElem_mem b)).2.1
def yQ (N n k:Nat)(ids:List Int)(c:Int)(b:ByteArray)(u:Nat→Nat)(V:Nat→Nat×List ByteArray)(pg:Nat)(s:Tx.St)(fs:List Fr)(x y:Int):Prop:=
 (y=0∧x=(pg:Int)∧pg<n∧HV N n k ids c (D1 b pg) (Gr u pg 2) V s fs)∨(y=18∧pg=n)
theorem fL (s:Tx.St)(p:SP)(fs:List Fr){C:Nat→ByteArray}(v:SS N n k ids c s fs C)(X:SI n C b u V)(t:Int)(I:t∈ids)(l:Rc.num t)(J:1≤t)(last:Nat)(m:1≤last)(f:last<n)(K:(V last).1=0)(pg:Nat)(a1:pg≤n)(z:Rm u pg)(A:pg<n→¬ 0<u pg)(L:0<u last)
 (M:pg<n→c+8834≤(N:Int)*128) (w:World) (Y:Fv w) (h:Am w s p fs):
 Cq 36 #[Ah s p,t,.int .i64 (last:Int)] w (J7 (yQ N n k ids (c+8834) b u (Gr (Gr V pg (0,[])) last (pg,(V last).2)) pg) w):=by
 have Z:=v.pi.n1.2.1;refine bV s p fs t last (Tx.aP s t) (yQ N n k ids (c+5048) b u (Gr V pg (0,[])) pg) (fun x s2 g y=>y=0∧x=(pg:Int)∧pg<n∧HV N n k ids (c+7572) (D1 b pg) (Gr u pg 2) (Gr (Gr V pg (0,[])) last (pg,(V last).2)) s2 g) _ w ?_ ?_ ?_ ?_ ?_ ?_ ?_
 ·intro W i
  exact lF s p t v.tx.small W (h.below i).st
 ·intro W i
  by_cases a:pg<n
  ·refine(Un s p fs C v (by have:=M a;omega) t I l b u X 2 ⟨by decide,by decide⟩ pg a z (A a) W (h.below i)).mono ?_
   rintro e w' ⟨B,q,d,C',rfl,h1,j,D,O⟩;exact⟨B,q,d,_,_,rfl,h1,.inl ⟨rfl,rfl,a,C',j,D⟩,O⟩
  ·obtain rfl:pg=n:=by omega
   refine(Re s p fs C v b u X t 2 ⟨by decide,by decide⟩ z W (h.below i)).mono ?_;rintro e w' ⟨rfl,h1⟩;exact⟨s,p,fs,0,18,rfl,(h.below i).below h1,.inr ⟨rfl,rfl⟩,h1⟩
 ·rintro s1 o x y (⟨h1,-⟩|h1) j
  ·exact absurd h1 j
  ·exact .inr h1
 ·rintro s1 o x (⟨-,rfl,a,-⟩|⟨h1,-⟩) W i
  ·exact Ue (pg:Int) (by omega) (by omega) W (Y.below i)
  ·exact absurd h1 (by decide)
 ·rintro s1 q1 o x (⟨-,rfl,a,C1,E,r⟩|⟨h1,-⟩) W i P
  ·have F:last≠pg:=fun e=>A a (e▸L)
   have Q:=E.pi.nm last f;have G:(Ab (C1 last)).link=0:=(by rw[r.lp last m f,Dr _ _ F];exact K);have R:(Ab (C1 last)).Ai=(V last).2:=(by rw[r.rp last m f,Dr _ _ F]);obtain⟨H,S,T⟩:=uC Q G (k:=pg) (by omega);have h0:F3 0=⟨#[48]⟩:=(by decide+kernel);have U:(F3 (pg:Int)).size≤512:=by
    have:∀ x:Nat,x<61→(F3 ((x:Nat):Int)).size≤512:=(by decide+kernel);exact this pg (by omega)
   rw[h0]at H;refine(Pk (c:=c+5048) s1 q1 o E r (by have:=M a;omega) t I l last m f ⟨6,0,⟨#[48]⟩,F3 (pg:Int)⟩ (.inr (.inr (.inr rfl))) ⟨by show(0:Int)≤0;decide,by show(0:Int)<32768;decide⟩ (by show(⟨#[48]⟩:ByteArray).size≤512;decide) U _ H S pg (V last).2 (by rw[T,R]) W (Y.below i) P).mono ?_;rintro e w' ⟨B,q,d,y,rfl,h1,⟨rfl,j⟩,D⟩;exact⟨B,q,d,0,rfl,h1,⟨rfl,rfl,a,by rw[show c+7572=c+5048+2524 from by omega];exact j⟩,D⟩
  ·exact absurd h1 (by decide)
 ·rintro x s2 g y ⟨h1,-⟩ j
  exact absurd h1 j
 ·rintro x s2 q2 g ⟨-,rfl,a,j⟩ W P
  refine(rL s2 q2 g j (by have:=M a;omega) t I l J _ (rM v t) W P).mono ?_;rintro e w' ⟨B,q,d,y,rfl,D,⟨rfl,O⟩,h5⟩;exact⟨B,q,d,0,rfl,D,.inl ⟨rfl,rfl,a,by rw[show c+8834=c+7572+1262 from by omega];exact O⟩,h5⟩
def zD (N n k:Nat)(ids:List Int)(c:Int)(b:ByteArray)(u:Nat→Nat)(V:Nat→Nat×List ByteArray)(l:List Nat)(rec:ByteArray)(s:Tx.St)(p:SP)(fs:List Fr)(w:World)(e:Ending)(w':World):Prop:=
 (∃ (m:Nat) (hm:m<l.length) (s':Tx.St) (q:SP) (fs':List Fr),e= .returned (.tuple #[Ah s' q,.agg #[.int .i64 (l[m]:Int),.int .i64 ((Pg.C4 (V l[m]).2:Nat):Int)],()])∧Am w' s' q fs'∧
   HV N n k ids (c+2524) b u (Gr V l[m] ((V l[m]).1,Eo (V l[m]).2 (Pg.C4 (V l[m]).2) rec)) s' fs'∧(rec.size:Int)≤Jf (V l[m]).2∧(∀ j (hj:j<l.length),j<m→¬ (rec.size:Int)≤Jf (V l[j]).2)∧Bw w w')∨
 (∃ (pg:Nat) (s':Tx.St) (q:SP) (fs':List Fr),e= .returned (.tuple #[Ah s' q,.agg #[.int .i64 (pg:Int),()],()])∧Am w' s' q fs'∧pg<n∧Rm u pg∧¬ 0<u pg∧
   HV N n k ids (c+11358) (D1 b pg) (Gr u pg 2) (Gr (Gr V (Gg l) (pg,(V (Gg l)).2)) pg (0,[rec])) s' fs'∧(∀ j (hj:j<l.length),¬ (rec.size:Int)≤Jf (V l[j]).2)∧Bw w w')∨
 (e= .returned (.tuple #[Ah s p,.agg #[(),()],.int .i64 18])∧Am w' s p fs∧Rm u n∧(∀ j (hj:j<l.length),¬ (rec.size:Int)≤Jf (V l[j]).2)∧Bw w w')
theorem fM {r:ByteArray}(h:1≤r.size):Eo [] 0 r=[r]:=by
 unfold Eo Pg.trim
 show List.take (Pg.Ds [r] 1) [r]=[r]
 unfold Pg.Ds;rw[if_neg (by show ¬ r.size=0;omega)]
 rfl
theorem Pm {l:List Nat}{j:Nat}(h:j<l.length):(l[j]?).getD 0=l[j]:=by rw[List.getElem?_eq_getElem h];rfl
theorem iN (s:Tx.St)(p:SP)(fs:List Fr)(hS:HV N n k ids c b u V s fs)(l:List Nat)(K:Hc n u V l)(t:Int)(ht:t∈ids)(U:Rc.num t)(aa:1≤t)(r:Int)(hr:r=((l[0]?).getD 0:Nat))(rec:ByteArray)(L:1≤rec.size∧rec.size≤400)
 (hc:c+2524≤(N:Int)*128) (a6:¬ Rm u n→c+11358≤(N:Int)*128) (w:World) (hv:Fv w) (h:Am w s p fs):
 Cq 10 #[Ah s p,t,r,rec] w (zD N n k ids c b u V l rec s p fs w):=by
 obtain⟨C,hS,T⟩:=hS;have aj:=hS.pi.n1.2.1;obtain⟨m,ad,ae,X⟩:=Uq (fun j=>(rec.size:Int)≤Jf (V ((l[j]?).getD 0)).2) l.length;obtain⟨pg,af,Y,G⟩:=wO u n;have ag:=K.ch.pos;have a7:=Pj ag;have M:=K.mem (x:=Gg l) (by rw[a7];exact List.getElem_mem _);have ah:(V (Gg l)).1=0:=by
  have h9:=K.ch.ln (l.length-1) (by omega);rw[a7,h9,List.getElem?_eq_none (by omega)];rfl
 have a8:pg<n→¬ Rm u n:=fun f F=>G f (F pg f);have O:pg<n→pg≠Gg l:=fun f F=>G f (by rw[F,M.2.2];decide);have Z:∀ j (a:j<l.length),Jg (C l[j])=Jf (V l[j]).2:=fun j a=>iL hS T (K.ch.at_ j a).1 (K.ch.at_ j a).2.1;have hF:∀ j (a:j<l.length),j<m→¬ (rec.size:Int)≤Jf (V l[j]).2:=fun j a a1=>by
  have:=ae j a1
  rwa[Pm a]at this
 refine(bW s p fs hS T l K.ch t r hr rec L m ad (fun j a a1=>by rw[Z j a];exact hF j a a1) (fun a=>by
  have:=X a;rw[Pm a]at this;rw[Z m a];exact this) (if a:m<l.length then((Pg.C4 (V l[m]).2:Nat):Int)else 0) (fun a=>by
  rw[dif_pos a,T.rp _ (K.ch.at_ m a).1 (K.ch.at_ m a).2.1])
  (fun s1 o x y=>m=l.length∧yQ N n k ids (c+8834) b u (Gr (Gr V pg (0,[])) (Gg l) (pg,(V (Gg l)).2)) pg s1 o x y)
  (fun H g x y=>(∃ a:m<l.length,x=(l[m]:Int)∧y=((Pg.C4 (V l[m]).2:Nat):Int)∧HV N n k ids (c+2524) b u (Gr V l[m] ((V l[m]).1,Eo (V l[m]).2 (Pg.C4 (V l[m]).2) rec)) H g)∨
    (m=l.length∧x=(pg:Int)∧y=0∧pg<n∧HV N n k ids (c+11358) (D1 b pg) (Gr u pg 2) (Gr (Gr V (Gg l) (pg,(V (Gg l)).2)) pg (0,[rec])) H g))
  (fun z=>z=18∧pg=n∧m=l.length) w ?_ ?_ ?_ h).mono ?_
 ·intro v s1 q1 o i W hb hp
  refine(fL s1 q1 o i T t ht U aa (Gg l) M.1 M.2.1 ah pg af Y G (by rw[M.2.2];decide) (fun f=>by have:=a6 (a8 f);omega) W (hv.below hb) hp).mono ?_;rintro e w' ⟨H,q,g,x,y,rfl,f,F,h3⟩;exact⟨H,q,g,x,y,rfl,f,⟨v,F⟩,h3⟩
 ·rintro s1 o x y ⟨v,⟨f,-⟩|⟨f,F⟩⟩ h3
  ·exact absurd f h3
  ·exact⟨by omega,f,F,v⟩
 ·rintro s1 q1 o x y (⟨a,i,rfl,rfl⟩|⟨⟨v,f⟩,rfl⟩) W hb hp
  ·have A:=K.ch.at_ m a
   have D:=X a;rw[Pm a]at D;rw[dif_pos a,Pm a];obtain⟨I,B⟩:=rF (i.pi.nm l[m] A.2.1) L (by rw[Z m a];exact D);have E:=T.rp l[m] A.1 A.2.1;have J:=T.lp l[m] A.1 A.2.1;rw[E]at I B;have ak:=Pg.Se (V l[m]).2;have ai:=(Cf (C l[m])).fine.len;rw[E]at ai;refine(Pk s1 q1 o i T hc t ht U l[m] A.1 A.2.1 ⟨1,((Pg.C4 (V l[m]).2:Nat):Int),⟨#[]⟩,rec⟩ (.inl rfl) ⟨by show(0:Int)≤((Pg.C4 (V l[m]).2:Nat):Int);omega,by show((Pg.C4 (V l[m]).2:Nat):Int)<32768;omega⟩ (by show(⟨#[]⟩:ByteArray).size≤512;decide) (by show rec.size≤_;omega) _ I B.nm (V l[m]).1 (Eo (V l[m]).2 (Pg.C4 (V l[m]).2) rec) (by rw[B.leaf,← J,E];rfl) W (hv.below hb) hp).mono ?_;rintro e w' ⟨H,q,g,y,rfl,f,⟨rfl,F⟩,h3⟩;exact⟨H,q,g,0,rfl,f,⟨rfl,.inl ⟨a,rfl,rfl,F⟩⟩,h3⟩
  ·rcases f with⟨-,rfl,d,C1,i,P⟩|⟨f,-⟩
   ·have Q:1≤pg:=by
     rcases Nat.eq_zero_or_pos pg with h9|h9
     ·exact absurd (by rw[h9,T.u0];decide) (G d)
     ·exact h9
    have E:(Ab (C1 pg)).Ai=[]:=(by rw[P.rp pg Q d,Dr _ _ (O d),Ez]);have J:(Ab (C1 pg)).link=0:=(by rw[P.lp pg Q d,Dr _ _ (O d),Ez]);have D:(rec.size:Int)≤Jg (C1 pg):=by
     rw[iL i P Q d,Dr _ _ (O d),Ez]
     show _≤Jf []
     rw[show Jf []=400 from by decide];omega
    obtain⟨I,B⟩:=rF (i.pi.nm pg d) L D;rw[E]at I B;refine(Pk s1 q1 o i P (by have:=a6 (a8 d);omega) t ht U pg Q d ⟨1,0,⟨#[]⟩,rec⟩ (.inl rfl) ⟨by show(0:Int)≤0;decide,by show(0:Int)<32768;decide⟩ (by show(⟨#[]⟩:ByteArray).size≤512;decide) (by show rec.size≤_;omega) _ I B.nm 0 [rec] (by
     rw[B.leaf]
     show A4 (C1 pg) (Eo (Ab (C1 pg)).Ai 0 rec)=_
     rw[E,fM L.1,← J];rfl) W (hv.below hb) hp).mono ?_
    rintro e w' ⟨H,q,g,y,rfl,f,⟨rfl,F⟩,h3⟩;refine⟨H,q,g,0,rfl,f,⟨rfl,.inr ⟨v,rfl,rfl,d,?_⟩⟩,h3⟩;rw[rK V _ _ (O d),iM,show c+8834+2524=c+11358 from by omega]at F;exact F
   ·exact absurd f (by decide)
 ·rintro e w' (⟨H,q,g,x,y,rfl,R,(⟨a,rfl,rfl,f⟩|⟨v,rfl,rfl,d,f⟩),S⟩|⟨z,rfl,R,⟨rfl,rfl,v⟩,S⟩)
  ·refine .inl ⟨m,a,H,q,g,rfl,R,f,?_,hF,S⟩
   have:=X a
   rwa[Pm a]at this
  ·exact .inr (.inl ⟨pg,H,q,g,rfl,R,d,Y,G d,f,fun j a=>hF j a (by omega),S⟩)
  ·exact .inr (.inr ⟨rfl,R,Y,fun j a=>hF j a (by omega),S⟩)
end
structure Kv where
 pg:Nat
 sl:Nat
 r:ByteArray
def E7 (x:Kv):List Value:=[.int .i64 (x.pg:Int),.int .i64 (x.sl:Int)]
theorem Io (x:Kv):(E7 x).length=2:=rfl
def wP (x:Kv):List Value:=[.string x.r]
theorem Ur (x:Kv):(wP x).length=1:=rfl
def Pn (pg:Nat)(rs:List ByteArray):Nat→List Kv
 |0=>[]
 |j+1=>if(Pg.Cc rs j).size=0 then Pn pg rs j else Pn pg rs j++[⟨pg,j,Pg.Cc rs j⟩]
def Hj (V:Nat→Nat×List ByteArray)(l:List Nat):List Kv:=l.flatMap fun pg=>Pn pg (V pg).2 (V pg).2.length
theorem Po (pg:Nat)(rs:List ByteArray)(x:Kv):∀ j,x∈Pn pg rs j↔x.pg=pg∧x.sl<j∧x.r=Pg.Cc rs x.sl∧x.r.size≠0
 |0=>⟨fun h=>(by cases h),fun h=>absurd h.2.1 (by omega)⟩
 |j+1=>by
  have ih:=Po pg rs x j;unfold Pn
  by_cases hz:(Pg.Cc rs j).size=0
  ·rw[if_pos hz,ih]
   refine⟨fun h=>⟨h.1,by omega,h.2.2⟩,fun h=>⟨h.1,?_,h.2.2⟩⟩;rcases Nat.lt_or_ge x.sl j with h1|h1
   ·exact h1
   ·obtain h2:x.sl=j:=by omega
    rw[h2]at h;exact absurd (by rw[h.2.2.1];exact hz) h.2.2.2
  ·rw[if_neg hz,List.mem_append,List.mem_singleton,ih]
   refine⟨fun h=>?_,fun h=>?_⟩
   ·rcases h with h|h
    ·exact⟨h.1,by omega,h.2.2⟩
    ·subst h;exact⟨rfl,Nat.lt_succ_self _,rfl,hz⟩
   ·rcases Nat.lt_or_ge x.sl j with h1|h1
    ·exact .inl ⟨h.1,h1,h.2.2⟩
    ·obtain h2:x.sl=j:=by omega
     obtain⟨a,b,c⟩:=x;dsimp only at h h2;obtain⟨rfl,-,rfl,-⟩:=h;subst h2;exact .inr rfl
theorem Ql (pg:Nat)(rs:List ByteArray):∀ j,(Pn pg rs j).Nodup
 |0=>List.nodup_nil
 |j+1=>by
  unfold Pn
  split
  ·exact Ql pg rs j
  ·refine List.nodup_append.2 ⟨Ql pg rs j,by simp,fun a ha b hb e=>?_⟩
   rw[List.mem_singleton]at hb;rw[e,hb,Po]at ha;exact absurd ha.2.1 (Nat.lt_irrefl _)
theorem Nj (V:Nat→Nat×List ByteArray)(l:List Nat)(x:Kv):x∈Hj V l↔x.pg∈l∧x.r=Pg.Cc (V x.pg).2 x.sl∧x.r.size≠0:=by
 unfold Hj;rw[List.mem_flatMap];refine⟨fun⟨pg,b,a⟩=>?_,fun h=>⟨x.pg,h.1,?_⟩⟩
 ·rw[Po]at a
  obtain⟨rfl,-,c,d⟩:=a;exact⟨b,c,d⟩
 ·rw[Po]
  exact⟨rfl,P9 (by rw[← h.2.1];exact h.2.2),h.2.1,h.2.2⟩
theorem Rh (V:Nat→Nat×List ByteArray):∀ l:List Nat,l.Nodup→(Hj V l).Nodup
 |[],_=>List.nodup_nil
 |a::l,h=>by
  have h1:=List.nodup_cons.1 h
  show(Pn a (V a).2 (V a).2.length++Hj V l).Nodup
  refine List.nodup_append.2 ⟨Ql _ _ _,Rh V l h1.2,fun x hx y hy e=>?_⟩;rw[e,Po]at hx;rw[Nj,hx.1]at hy;exact h1.1 hy.1
structure Rp (V:Nat→Nat×List ByteArray) (l:List Nat) (kv:List Kv):Prop where
 nd:kv.Nodup
 mem:∀ x:Kv,x∈kv↔x.pg∈l∧x.r=Pg.Cc (V x.pg).2 x.sl∧x.r.size≠0
section
variable {V : Nat → Nat × List ByteArray} {l : List Nat} {kv : List Kv}
theorem Rp.len (h:Rp V l kv)(b:l.Nodup):(Hj V l).length=kv.length:=by
 have c:=sub_le _ kv (Rh V l b) (fun x a=>(h.mem x).2 ((Nj V l x).1 a));have d:=sub_le _ (Hj V l) h.nd (fun x a=>(Nj V l x).2 ((h.mem x).1 a));omega
theorem Rp.uG (h:Rp V l kv){x:Kv}(a:x∈kv):x∈Hj V l:=(Nj V l x).2 ((h.mem x).1 a)
theorem Rp.off (h:Rp V l kv){b:Nat→Nat×List ByteArray}(c:∀ x∈l,(b x).2=(V x).2):Rp b l kv:=
 ⟨h.nd,fun x=>by
   rw[h.mem x];refine⟨fun a=>⟨a.1,by rw[c _ a.1];exact a.2.1,a.2.2⟩,fun a=>⟨a.1,by rw[← c _ a.1];exact a.2.1,a.2.2⟩⟩⟩
theorem Yj (V:Nat→Nat×List ByteArray)(pg b sl:Nat)(r:ByteArray)(q j:Nat):Pg.Cc (Gr V pg (b,Eo (V pg).2 sl r) q).2 j=if q=pg∧j=sl then r else Pg.Cc (V q).2 j:=by
 by_cases e:q=pg
 ·rw[e,Ez,fK]
  by_cases a:j=sl
  ·rw[if_pos a,if_pos ⟨rfl,a⟩]
  ·rw[if_neg a,if_neg (fun h=>a h.2)]
 ·rw[Dr _ _ e,if_neg (fun h=>e h.1)]
theorem rN {x:Kv}{pg sl:Nat}{r:ByteArray}(d:x.pg=pg)(e:x.sl=sl)(f:x.r=r):x=⟨pg,sl,r⟩:=by
 obtain⟨a,b,c⟩:=x;subst d e f;rfl
theorem Rp.put (h:Rp V l kv){pg i sl:Nat}{r:ByteArray}(c:pg∈l)(f:(Pg.Cc (V pg).2 sl).size=0)(j:1≤r.size):Rp (Gr V pg (i,Eo (V pg).2 sl r)) l (kv++[⟨pg,sl,r⟩]):=by
 refine⟨List.nodup_append.2 ⟨h.nd,by simp,fun a d b g e=>?_⟩,fun x=>?_⟩
 ·rw[List.mem_singleton]at g
  rw[e,g,h.mem]at d;exact d.2.2 (by rw[d.2.1];exact f)
 ·rw[List.mem_append,List.mem_singleton,h.mem x,Yj]
  by_cases e:x.pg=pg∧x.sl=sl
  ·rw[if_pos e]
   refine⟨fun h1=>?_,fun h1=>.inr (rN e.1 e.2 h1.2.1)⟩;rcases h1 with h1|h1
   ·rw[e.1,e.2]at h1
    exact absurd (by rw[h1.2.1];exact f) h1.2.2
   ·rw[h1];exact⟨c,rfl,by show r.size≠0;omega⟩
  ·rw[if_neg e]
   refine⟨fun h1=>?_,fun h1=>.inl h1⟩;rcases h1 with h1|h1
   ·exact h1
   ·rw[h1]at e;exact absurd ⟨rfl,rfl⟩ e
theorem Rp.more (h:Rp V l kv){pg last g:Nat}{r:ByteArray}(d:pg∉l)(n:1≤r.size):Rp (Gr (Gr V last (g,(V last).2)) pg (0,[r])) (l++[pg]) (kv++[⟨pg,0,r⟩]):=by
 have i:∀ x∈l,(Gr (Gr V last (g,(V last).2)) pg (0,[r]) x).2=(V x).2:=fun x m=>by
  rw[Dr _ _ (fun e=>d (by rw[← e];exact m))]
  by_cases e:x=last
  ·rw[e,Ez]
  ·rw[Dr _ _ e]
 refine⟨List.nodup_append.2 ⟨h.nd,by simp,fun a j b k e=>?_⟩,fun x=>?_⟩
 ·rw[List.mem_singleton]at k
  rw[e,k,h.mem]at j;exact d j.1
 ·rw[List.mem_append,List.mem_singleton,h.mem x,List.mem_append,List.mem_singleton]
  refine⟨fun h1=>?_,fun⟨h1,c,f⟩=>?_⟩
  ·rcases h1 with h1|h1
   ·exact⟨.inl h1.1,by rw[i _ h1.1];exact h1.2.1,h1.2.2⟩
   ·rw[h1];exact⟨.inr rfl,by rw[Ez];rfl,by show r.size≠0;omega⟩
  ·rcases h1 with h1|h1
   ·left
    rw[i _ h1]at c;exact⟨h1,c,f⟩
   ·right
    rw[h1,Ez]at c;refine rN h1 ?_ ?_
    ·rcases Nat.eq_zero_or_pos x.sl with h4|h4
     ·exact h4
     ·rw[Pg.G8 (by show 1≤x.sl;exact h4)]at c
      rw[c]at f;exact absurd rfl f
    ·rcases Nat.eq_zero_or_pos x.sl with h4|h4
     ·rw[c,h4];rfl
     ·rw[Pg.G8 (by show 1≤x.sl;exact h4)]at c
      rw[c]at f;exact absurd rfl f
theorem Yk {α:Type}{m:List α}(c:m.Nodup){i:Nat}(hi:i<m.length)(x:α):x∈m.take i++m.drop (i+1)↔x∈m∧x≠m[i]:=by
 have e:m=m.take i++m[i]::m.drop (i+1):=by
  rw[List.getElem_cons_drop];exact(List.take_append_drop i m).symm
 have a:=c;rw[e]at a;obtain⟨j,d,f⟩:=List.nodup_append.1 a;have g:=List.nodup_cons.1 d;refine⟨fun h=>⟨?_,fun b=>?_⟩,fun h=>?_⟩
 ·rw[List.mem_append]at h
  rcases h with h|h
  ·exact List.mem_of_mem_take h
  ·exact List.mem_of_mem_drop h
 ·rw[List.mem_append]at h
  rcases h with h|h
  ·exact f x h m[i] List.mem_cons_self b
  ·rw[b]at h;exact g.1 h
 ·have h5:=h.1
  rw[e,List.mem_append,List.mem_cons]at h5;rw[List.mem_append];rcases h5 with h5|h5|h5
  ·exact .inl h5
  ·exact absurd h5 h.2
  ·exact .inr h5
theorem Wi {α:Type}{m:List α}(a:m.Nodup)(i:Nat):(m.take i++m.drop (i+1)).Nodup:=by
 refine List.Nodup.sublist ?_ a;have b:(m.drop (i+1)).Sublist (m.drop i):=by
  rw[show i+1=i+1 from rfl,← List.drop_drop];exact List.drop_sublist _ _
 have c:=List.Sublist.append (List.Sublist.refl (m.take i)) b
 rwa[List.take_append_drop]at c
theorem Rp.key (h:Rp V l kv){x y:Kv}(g:x∈kv)(hy:y∈kv)(d:x.pg=y.pg)(e:x.sl=y.sl):x=y:=by
 have f:=((h.mem x).1 g).2.1;have i:=((h.mem y).1 hy).2.1;rw[d,e,← i]at f;obtain⟨a,b,c⟩:=x;obtain⟨j,k,m⟩:=y;dsimp only at d e f;subst d e f;rfl
theorem Rp.cut (h:Rp V l kv){i b:Nat}(hi:i<kv.length):Rp (Gr V kv[i].pg (b,Eo (V kv[i].pg).2 kv[i].sl ⟨#[]⟩)) l (kv.take i++kv.drop (i+1)):=by
 refine⟨Wi h.nd i,fun x=>?_⟩;rw[Yk h.nd hi,Yj]
 by_cases e:x.pg=kv[i].pg∧x.sl=kv[i].sl
 ·rw[if_pos e]
  refine⟨fun a=>absurd (h.key a.1 (List.getElem_mem hi) e.1 e.2) a.2,fun a=>?_⟩;rw[a.2.1]at a;exact absurd rfl a.2.2
 ·rw[if_neg e,h.mem x]
  refine⟨fun a=>a.1,fun a=>⟨a,fun c=>e (by rw[c];exact⟨rfl,rfl⟩)⟩⟩
theorem Rp.set (h:Rp V l kv){i k:Nat}{r:ByteArray}(hi:i<kv.length)(q:1≤r.size):Rp (Gr V kv[i].pg (k,Eo (V kv[i].pg).2 kv[i].sl r)) l (kv.set i ⟨kv[i].pg,kv[i].sl,r⟩):=by
 have m:=(h.mem _).1 (List.getElem_mem hi);have c:∀ x,x∈kv.set i ⟨kv[i].pg,kv[i].sl,r⟩↔(x∈kv∧x≠kv[i])∨x=⟨kv[i].pg,kv[i].sl,r⟩:=fun x=>by
  rw[← Yk h.nd hi,List.set_eq_take_append_cons_drop,if_pos hi,List.mem_append,List.mem_append,List.mem_cons];refine⟨fun h1=>?_,fun h1=>?_⟩
  ·rcases h1 with h1|h1|h1
   ·exact .inl (.inl h1)
   ·exact .inr h1
   ·exact .inl (.inr h1)
  ·rcases h1 with(h1|h1)|h1
   ·exact .inl h1
   ·exact .inr (.inr h1)
   ·exact .inr (.inl h1)
 refine⟨?_,fun x=>?_⟩
 ·have n:=Wi h.nd i
  obtain⟨h1,f,o⟩:=List.nodup_append.1 n;have d:∀ x∈kv.take i++kv.drop (i+1),x≠⟨kv[i].pg,kv[i].sl,r⟩:=fun x g e=>by
   rw[Yk h.nd hi]at g;exact g.2 (h.key g.1 (List.getElem_mem hi) (by rw[e]) (by rw[e]))
  rw[List.set_eq_take_append_cons_drop,if_pos hi];refine List.nodup_append.2 ⟨h1,List.nodup_cons.2 ⟨fun h4=>d _ (List.mem_append.2 (.inr h4)) rfl,f⟩,fun a j b p e=>?_⟩;rcases List.mem_cons.1 p with h4|h4
  ·exact d a (List.mem_append.2 (.inl j)) (by rw[e,h4])
  ·exact o a j b h4 e
 ·rw[c,Yj]
  by_cases e:x.pg=kv[i].pg∧x.sl=kv[i].sl
  ·rw[if_pos e]
   refine⟨fun h1=>?_,fun h1=>.inr (rN e.1 e.2 h1.2.1)⟩;rcases h1 with h1|h1
   ·exact absurd (h.key h1.1 (List.getElem_mem hi) e.1 e.2) h1.2
   ·rw[h1];exact⟨m.1,rfl,by show r.size≠0;omega⟩
  ·rw[if_neg e,← h.mem x]
   refine⟨fun h1=>?_,fun h1=>.inl ⟨h1,fun f=>e (by rw[f];exact⟨rfl,rfl⟩)⟩⟩;rcases h1 with h1|h1
   ·exact h1.1
   ·exact absurd (by rw[h1];exact⟨rfl,rfl⟩) e
end
theorem Rp.nil (V:Nat→Nat×List ByteArray)(pg:Nat)(h:(V pg).2=[]):Rp V [pg] []:=
 ⟨List.nodup_nil,fun x=>⟨fun a=>(by cases a),fun a=>by
   rw[List.mem_singleton]at a;rw[a.1,h]at a;exact absurd (by rw[a.2.1];rfl) a.2.2⟩⟩
section
variable {N n k : Nat} {ids : List Int} {c : Int} {b : ByteArray} {u : Nat → Nat} {V : Nat → Nat × List ByteArray}
theorem iO (s:Tx.St)(p:SP)(fs:List Fr)(f:HV N n k ids c b u V s fs)(t:Int)(o:t∈ids)(i:Rc.num t)(pg:Nat)(r:pg≤n)(d:Rm u pg)(j:pg<n→¬ 0<u pg)(v:pg<n→c+5048≤(N:Int)*128)(w:World)(h:Am w s p fs):
 Cq 7 #[Ah s p,t] w (J7 (fun s' fs' x y=>yQ N n k ids (c+5048) b u (Gr V pg (0,[])) pg s' fs' x y∧(y≠0→s'=s∧fs'=fs)) w):=by
 obtain⟨C,f,m⟩:=f;refine rE s p t _ w (fun W l=>?_)
 by_cases a:pg<n
 ·refine(Un s p fs C f (v a) t o i b u m 2 ⟨by decide,by decide⟩ pg a d (j a) W (h.below l)).mono ?_
  rintro e w' ⟨s',q,fs',z,rfl,g,A,B,D⟩;exact⟨s',q,fs',_,_,rfl,g,⟨.inl ⟨rfl,rfl,a,z,A,B⟩,fun h=>absurd rfl h⟩,D⟩
 ·obtain rfl:pg=n:=by omega
  refine(Re s p fs C f b u m t 2 ⟨by decide,by decide⟩ d W (h.below l)).mono ?_;rintro e w' ⟨rfl,g⟩;exact⟨s,p,fs,0,18,rfl,(h.below l).below g,⟨.inr ⟨rfl,rfl⟩,fun _=>⟨rfl,rfl⟩⟩,g⟩
theorem fN (s:Tx.St)(p:SP)(fs:List Fr){C:Nat→ByteArray}(l:SS N n k ids c s fs C)(m:SI n C b u V)(pg:Nat)(o:1≤pg)(a:pg<n)(t:u pg=2)(sl:Int)(w:World)(h:Am w s p fs):
 Cq 14 #[Ah s p,.agg #[.int .i64 (pg:Int),sl]] w (uD (fun s' fs'=>SS N n k ids c s' fs' C) (if(Pg.Az (V pg).2 sl).size=0 then 21 else 0) (Pg.Az (V pg).2 sl) s p fs w):=by
 have i:=l.pi.nm pg a;have d:=m.kp pg o a;rw[t]at d;have j:=m.rp pg o a;have f:=uE s p fs (pg:Int) sl (C pg) (Pg.Az (V pg).2 sl) (!decide ((Pg.Az (V pg).2 sl).size=0)) 0 (by decide) (fun s' fs'=>SS N n k ids c s' fs' C) w h (fun W v=>by
  refine(Uo s p fs C l pg a W (h.below v)).mono ?_;rw[if_pos d];rintro e w' ⟨s',q,fs',rfl,x,y,z⟩;exact⟨s',q,fs',rfl,x,y,z⟩) (fun W=>by
  have r:=E8 (C pg) sl (by rw[i.size];omega) W;rw[j]at r;exact r)
 rw[if_pos rfl]at f
 by_cases g:(Pg.Az (V pg).2 sl).size=0
 ·rw[if_pos g]
  rw[decide_eq_true g,if_neg (by decide)]at f;exact f
 ·rw[if_neg g]
  rw[decide_eq_false g,if_pos (by decide)]at f;exact f
theorem wQ (s:Tx.St)(p:SP)(fs:List Fr)(a:HV N n k ids c b u V s fs)(pg:Nat)(j:1≤pg)(d:pg<n)(l:u pg=2)(sl:Nat)(f:(Pg.Cc (V pg).2 sl).size≠0)(w:World)(h:Am w s p fs):
 Cq 14 #[Ah s p,.agg #[.int .i64 (pg:Int),.int .i64 (sl:Int)]] w fun e w'=>∃ (s':Tx.St) (q:SP) (fs':List Fr),e= .returned (.tuple #[Ah s' q,.string (Pg.Cc (V pg).2 sl),()])∧Am w' s' q fs'∧HV N n k ids c b u V s' fs'∧Bw w w':=by
 obtain⟨C,a,g⟩:=a;have i:=fN s p fs a g pg j d l (sl:Int) w h;rw[Pg.Ci,if_neg f]at i;refine i.mono ?_;rintro e w' (⟨-,s',q,fs',rfl,m,o,r⟩|⟨t,-⟩)
 ·exact⟨s',q,fs',rfl,m,⟨C,o,g⟩,r⟩
 ·exact absurd rfl t
theorem uH (s:Tx.St)(p:SP)(fs:List Fr)(r:HV N n k ids c b u V s fs)(t:Int)(D:t∈ids)(v:Rc.num t)(E:c+2524≤(N:Int)*128)(pg:Nat)(l:1≤pg)(a:pg<n)(F:u pg=2)(sl:Nat)(f:(Pg.Cc (V pg).2 sl).size≠0)(w:World)(G:Fv w)(h:Am w s p fs):
 Cq 12 #[Ah s p,t,.agg #[.int .i64 (pg:Int),.int .i64 (sl:Int)]] w fun e w'=>∃ (s':Tx.St) (q:SP) (fs':List Fr),e= .returned (.tuple #[Ah s' q,()])∧Am w' s' q fs'∧
  HV N n k ids (c+2524) b u (Gr V pg ((V pg).1,Eo (V pg).2 sl ⟨#[]⟩)) s' fs'∧Bw w w':=by
 obtain⟨C,r,m⟩:=r;have d:=m.rp pg l a;have x:=m.lp pg l a;have g:=P9 f;have y:=(Cf (C pg)).fine.len;have i:=D0 (C pg);rw[d]at y i;have H:(Pg.Cc (V pg).2 sl).size≤400:=by rw[Pg.Oh g];exact i _ (List.getElem_mem g)
 refine(rG s p fs t (pg:Int) (sl:Int) (Pg.Cc (V pg).2 sl) 0 (by decide) (fun s' fs'=>SS N n k ids c s' fs' C) (fun s' fs'=>HV N n k ids (c+2524) b u (Gr V pg ((V pg).1,Eo (V pg).2 sl ⟨#[]⟩)) s' fs') w h (fun W z=>?_) (fun s1 I A j W z J=>?_)).mono ?_
 ·have B:=fN s p fs r m pg l a F (sl:Int) W (h.below z)
  rw[Pg.Ci,if_neg f]at B;exact B
 ·have o:=wM (k:=sl) (j.pi.nm pg a) (by rw[d];exact f)
  rw[d]at o;exact Pk s1 I A j m E t D v pg l a ⟨2,(sl:Int),Pg.Cc (V pg).2 sl,⟨#[]⟩⟩ (.inr (.inl rfl)) ⟨by show(0:Int)≤(sl:Int);omega,by show(sl:Int)<32768;omega⟩ (by show(Pg.Cc (V pg).2 sl).size≤512;omega) (by show(⟨#[]⟩:ByteArray).size≤512;decide) _ o.1 o.2.nm (V pg).1 _ (by rw[o.2.leaf,← x,d];rfl) W (G.below z) J
 ·rintro e w' (⟨-,s',q,fs',rfl,K,L,M⟩|⟨O,-⟩)
  ·exact⟨s',q,fs',rfl,K,L,M⟩
  ·exact absurd rfl O
theorem rO (p r:ByteArray)(i:Int):(Gn p i r).2≠20:=by
 unfold Gn
 split
 ·decide
 ·split
  ·decide
  ·split
   ·decide
   ·unfold Pg.El
    split
    ·show(18:Int)≠20;decide
    ·show(0:Int)≠20;decide
theorem uI (s:Tx.St)(p:SP)(fs:List Fr)(A:HV N n k ids c b u V s fs)(t:Int)(M:t∈ids)(D:Rc.num t)(O:c+2524≤(N:Int)*128)(pg:Nat)(m:1≤pg)(a:pg<n)(K:u pg=2)(sl:Nat)(i:(Pg.Cc (V pg).2 sl).size≠0)(rec:ByteArray)(w:World)(P:Fv w)(h:Am w s p fs):
 Cq 11 #[Ah s p,t,.agg #[.int .i64 (pg:Int),.int .i64 (sl:Int)],rec] w fun e w'=>∃ y:Int,(y=0→1≤rec.size∧rec.size≤400)∧nD (fun s' fs'=>HV N n k ids (c+2524) b u (Gr V pg ((V pg).1,Eo (V pg).2 sl rec)) s' fs') y s p fs w e w':=by
 obtain⟨C,A,o⟩:=A
 by_cases d:1≤rec.size∧rec.size≤400
 ·have f:=o.rp pg m a
  have E:=o.lp pg m a;have v:=o.kp pg m a;rw[K]at v;have x:=P9 i;have F:=A.pi.nm pg a;have G:=(Cf (C pg)).fine.len;have z:=D0 (C pg);rw[f]at G z;have Q:(Pg.Cc (V pg).2 sl).size≤400:=by rw[Pg.Oh x];exact z _ (List.getElem_mem x)
  refine(rI s p fs t (pg:Int) (sl:Int) rec d (Pg.Cc (V pg).2 sl) (C pg) (Gn (C pg) (sl:Int) rec).1 0 (Gn (C pg) (sl:Int) rec).2 (rO _ _ _) (fun s' fs'=>SS N n k ids c s' fs' C) (fun s' fs'=>HV N n k ids (c+2524) b u (Gr V pg ((V pg).1,Eo (V pg).2 sl rec)) s' fs') w h (fun W H=>?_) (fun s1 I j g W J=>?_) (fun W=>?_) (fun l s1 I j g W H J=>?_)).mono ?_
  ·have L:=fN s p fs A o pg m a K (sl:Int) W (h.below H)
   rw[Pg.Ci,if_neg i]at L;exact L
  ·refine(Uo s1 I j C g pg a W J).mono ?_
   rw[if_pos v];rintro e w' ⟨s',q,fs',rfl,l,R,S⟩;exact⟨s',q,fs',rfl,l,R,S⟩
  ·exact Zj (C pg) (sl:Int) rec (by rw[F.size];omega) W
  ·have B:=wN (k:=sl) (r:=rec) (g.pi.nm pg a) d (by rw[f];exact i) l
   rw[f]at B;exact Pk s1 I j g o O t M D pg m a ⟨3,(sl:Int),Pg.Cc (V pg).2 sl,rec⟩ (.inr (.inr (.inl rfl))) ⟨by show(0:Int)≤(sl:Int);omega,by show(sl:Int)<32768;omega⟩ (by show(Pg.Cc (V pg).2 sl).size≤512;omega) (by show rec.size≤512;omega) _ B.1 B.2.nm (V pg).1 _ (by rw[B.2.leaf,← E,f];rfl) W (P.below H) J
  ·intro e w' l
   exact⟨_,fun _=>d,l⟩
 ·refine(rH s p fs t (pg:Int) (sl:Int) rec d (fun s' fs'=>HV N n k ids (c+2524) b u (Gr V pg ((V pg).1,Eo (V pg).2 sl rec)) s' fs') w h).mono ?_
  intro e w' l;exact⟨1,fun T=>absurd T (by decide),l⟩
end
abbrev Us (i top:Nat):Int:=13882+2524*(i:Int)+8834*((top:Int)-3)
structure yR (i top:Nat) (b:ByteArray) (u:Nat→Nat) (V:Nat→Nat×List ByteArray) (lp lq:List Nat) (kv:List Kv) (s:Tx.St) (fs:List Fr):Prop where
 hv:HV 2400 24 4 [1] (Us i top) b u V s fs
 cp:Hc 24 u V lp
 cq:Hc 24 u V lq
 dj:∀ x∈lp,x∉lq
 p0:lp[0]? =some 1
 q0:lq[0]? =some 2
 tp:∀ q,0<u q↔q<top
 t3:3≤top
 t4:top≤24
 kp:Rp V lp kv
 kl:kv.length≤i
def Pp (i:Nat)(kv:List Kv)(s:Tx.St)(fs:List Fr):Prop:=∃ top b u V lp lq,yR i top b u V lp lq kv s fs
theorem yR.next {i top:Nat}{b:ByteArray}{u:Nat→Nat}{V:Nat→Nat×List ByteArray}{a c:List Nat}{d:List Kv}{s:Tx.St}{fs:List Fr}(h:yR i top b u V a c d s fs):yR (i+1) top b u V a c d s fs:=
 ⟨h.hv.more (by unfold Us;omega),h.cp,h.cq,h.dj,h.p0,h.q0,h.tp,h.t3,h.t4,h.kp,by have:=h.kl;omega⟩
theorem Pp.next {i:Nat}{a:List Kv}{s:Tx.St}{fs:List Fr}(h:Pp i a s fs):Pp (i+1) a s fs:=by
 obtain⟨top,b,u,V,c,d,h⟩:=h;exact⟨top,b,u,V,c,d,h.next⟩
theorem Pp.more {i j:Nat}{a:List Kv}{s:Tx.St}{fs:List Fr}(h:Pp i a s fs)(c:i≤j):Pp j a s fs:=by
 obtain⟨top,b,u,V,d,e,h⟩:=h;exact⟨top,b,u,V,d,e,h.hv.more (by unfold Us;omega),h.cp,h.cq,h.dj,h.p0,h.q0,h.tp,h.t3,h.t4,h.kp,by have:=h.kl;omega⟩
theorem Pp.whole {i:Nat}{c:List Kv}{s:Tx.St}{fs:List Fr}(h:Pp i c s fs):(∀ x∈s.Ay.sectors,x.size≠0)∧s.Ay.sectors.length=2497:=by
 obtain⟨top,b,u,V,d,e,h⟩:=h;obtain⟨C,a,-⟩:=h.hv;exact⟨a.whole,a.pi.pw.len⟩
structure InO (i top:Nat) (b:ByteArray) (u:Nat→Nat) (V:Nat→Nat×List ByteArray) (l:List Nat) (rec:ByteArray) (s':Tx.St) (fs':List Fr) (x y z:Int):Prop where
 is:(z=0∧∃ (m:Nat) (hm:m<l.length),x=(l[m]:Int)∧y=((Pg.C4 (V l[m]).2:Nat):Int)∧HV 2400 24 4 [1] (Us (i+1) top) b u (Gr V l[m] ((V l[m]).1,Eo (V l[m]).2 (Pg.C4 (V l[m]).2) rec)) s' fs')∨
  (z=0∧x=(top:Int)∧y=0∧top<24∧HV 2400 24 4 [1] (Us (i+1) (top+1)) (D1 b top) (Gr u top 2) (Gr (Gr V (Gg l) (top,(V (Gg l)).2)) top (0,[rec])) s' fs')∨
  (z=18∧HV 2400 24 4 [1] (Us (i+1) top) b u V s' fs')
theorem uJ {u:Nat→Nat}{top pg:Nat}(a:∀ q,0<u q↔q<top)(c:Rm u pg)(b:¬ 0<u pg):pg=top:=by
 rw[a]at b;rcases Nat.lt_trichotomy pg top with h|h|h
 ·exact absurd h b
 ·exact h
 ·have:=c top h
  rw[a]at this;omega
theorem vI {i top:Nat}{b:ByteArray}{u:Nat→Nat}{V:Nat→Nat×List ByteArray}{l:List Nat}(s:Tx.St)(p:SP)(fs:List Fr)(n:HV 2400 24 4 [1] (Us i top) b u V s fs)(v:Hc 24 u V l)(o:∀ q,0<u q↔q<top)(t3:3≤top)(t4:top≤24)(hi:i≤39)
 (r:Nat) (A:l[0]? =some r) (rec:ByteArray) (d:1≤rec.size∧rec.size≤400) (w:World) (B:Fv w) (h:Am w s p fs):
 Cq 10 #[Ah s p,.int .i64 1,.int .i64 (r:Int),rec] w fun e w'=>∃ (s':Tx.St) (q:SP) (fs':List Fr) (x y z:Int),e= .returned (.tuple #[Ah s' q,.agg #[x,y],z])∧Am w' s' q fs'∧InO i top b u V l rec s' fs' x y z∧Bw w w':=by
 have t:Us i top+2524=Us (i+1) top:=by unfold Us;omega
 have C:Us i top+11358=Us (i+1) (top+1):=by unfold Us;omega
 refine(iN s p fs n l v 1 (by simp) ⟨by decide,by decide⟩ (by decide) (r:Int) (by rw[A];rfl) rec d (by unfold Us;omega) (fun D=>by
  have:top<24:=by
   rcases Nat.lt_or_ge top 24 with h9|h9
   ·exact h9
   ·exact absurd (fun q F=>(o q).2 (by omega)) D
  unfold Us;omega) w B h).mono ?_
 rintro e w' (⟨m,E,s',q,fs',rfl,a,f,-,-,c⟩|⟨pg,s',q,fs',rfl,a,g,j,k,f,-,c⟩|⟨rfl,a,-,-,c⟩)
 ·exact⟨s',q,fs',_,_,_,rfl,a,⟨.inl ⟨rfl,m,E,rfl,rfl,by rw[← t];exact f⟩⟩,c⟩
 ·obtain rfl:=uJ o j k
  exact⟨s',q,fs',_,_,_,rfl,a,⟨.inr (.inl ⟨rfl,rfl,rfl,g,by rw[← C];exact f⟩)⟩,c⟩
 ·exact⟨s,p,fs,_,_,_,rfl,a,⟨.inr (.inr ⟨rfl,n.more (by rw[← t];omega)⟩)⟩,c⟩
section
variable {i : Nat} {kv : List Kv}
def zY (R:Int→Int→Int→Tx.St→List Fr→Prop)(w:World)(e:Ending)(w':World):Prop:=
 ∃ (s':Tx.St) (q:SP) (fs':List Fr) (x y z:Int),e= .returned (.tuple #[Ah s' q,.agg #[x,y],z])∧Am w' s' q fs'∧R x y z s' fs'∧Bw w w'
theorem iP {u:Nat→Nat}{top:Nat}(a:∀ q,0<u q↔q<top):∀ q,0<Gr u top 2 q↔q<top+1:=fun q=>by
 by_cases e:q=top
 ·rw[e,Ez];exact⟨fun _=>by omega,fun _=>by decide⟩
 ·rw[Dr _ _ e,a];omega
theorem rP (s:Tx.St)(p:SP)(fs:List Fr)(t:Pp i kv s fs)(hi:i≤39)(rec:ByteArray)(w:World)(v:Fv w)(h:Am w s p fs):
 Cq 10 #[Ah s p,.int .i64 1,.int .i64 2,rec] w (zY (fun _ _ _ s' fs'=>Pp (i+1) kv s' fs') w):=by
 by_cases f:1≤rec.size∧rec.size≤400
 ·obtain⟨top,b,u,V,lp,lq,a⟩:=t
  refine(vI s p fs a.hv a.cq a.tp a.t3 a.t4 hi 2 a.q0 rec f w v h).mono ?_;rintro e w' ⟨s',q,fs',x,y,z,rfl,k,⟨l⟩,A⟩;refine⟨s',q,fs',x,y,z,rfl,k,?_,A⟩;rcases l with⟨-,m,n,-,-,g⟩|⟨-,-,-,o,g⟩|⟨-,g⟩
  ·refine⟨top,b,u,_,lp,lq,g,a.cp.Ai _ _,a.cq.Ai _ _,a.dj,a.p0,a.q0,a.tp,a.t3,a.t4,a.kp.off (fun z c=>?_),by have:=a.kl;omega⟩
   rw[Dr _ _ (fun e=>a.dj z c (by rw[e];exact List.getElem_mem n))]
  ·have B:u top=0:=by
    have:=a.tp top;omega
   have d:top∉lp:=fun n=>by have:=(a.cp.mem n).2.2;omega
   have r:Gg lq∈lq:=(by rw[Pj a.cq.ch.pos];exact List.getElem_mem _);have j:∀ z∈lp,z≠Gg lq:=fun z c e=>a.dj z c (by rw[e];exact r);refine⟨top+1,_,_,_,lp,lq++[top],g,a.cp.off (fun z c=>Dr _ _ (fun e=>d (by rw[← e];exact c))) (fun z c=>by rw[Dr _ _ (fun e=>d (by rw[← e];exact c)),Dr _ _ (j z c)]),a.cq.more (by have:=a.t3;omega) o (by omega) _,
    fun z c=>?_,a.p0,?_,iP a.tp,by have:=a.t3;omega,by omega,a.kp.off (fun z c=>by rw[Dr _ _ (fun e=>d (by rw[← e];exact c)),Dr _ _ (j z c)]),by have:=a.kl;omega⟩
   ·rw[List.mem_append,List.mem_singleton]
    rintro(h5|h5)
    ·exact a.dj z c h5
    ·rw[h5]at c;exact d c
   ·rw[List.getElem?_append_left a.cq.ch.pos];exact a.q0
  ·exact⟨top,b,u,V,lp,lq,g,a.cp,a.cq,a.dj,a.p0,a.q0,a.tp,a.t3,a.t4,a.kp,by have:=a.kl;omega⟩
 ·refine(Rg s p fs 1 2 rec f w h).mono ?_
  rintro e w' ⟨rfl,k,l⟩;exact⟨s,p,fs,0,0,1,rfl,k,t.next,l⟩
structure PuO (i:Nat) (kv:List Kv) (rec:ByteArray) (x y z:Int) (s':Tx.St) (fs':List Fr):Prop where
 ok:z=0→(1≤rec.size∧rec.size≤400)∧∃ pg sl:Nat,x=(pg:Int)∧y=(sl:Int)∧Pp (i+1) (kv++[⟨pg,sl,rec⟩]) s' fs'∧∀ a∈kv,¬ (a.pg=pg∧a.sl=sl)
 no:z≠0→(z=18∧(1≤rec.size∧rec.size≤400)∨z=1∧¬ (1≤rec.size∧rec.size≤400))∧Pp (i+1) kv s' fs'
theorem wR (s:Tx.St)(p:SP)(fs:List Fr)(D:Pp i kv s fs)(hi:i≤39)(rec:ByteArray)(w:World)(E:Fv w)(h:Am w s p fs):
 Cq 10 #[Ah s p,.int .i64 1,.int .i64 1,rec] w (zY (PuO i kv rec) w):=by
 by_cases d:1≤rec.size∧rec.size≤400
 ·obtain⟨top,b,u,V,lp,lq,c⟩:=D
  refine(vI s p fs c.hv c.cp c.tp c.t3 c.t4 hi 1 c.p0 rec d w E h).mono ?_;rintro e w' ⟨F,q,o,x,y,z,rfl,r,⟨t⟩,G⟩;refine⟨F,q,o,x,y,z,rfl,r,?_,G⟩;rcases t with⟨rfl,m,k,rfl,rfl,l⟩|⟨rfl,rfl,rfl,v,l⟩|⟨rfl,l⟩
  ·refine⟨fun _=>⟨d,lp[m],Pg.C4 (V lp[m]).2,rfl,rfl,⟨top,b,u,_,lp,lq,l,c.cp.Ai _ _,c.cq.Ai _ _,c.dj,c.p0,c.q0,c.tp,c.t3,c.t4,c.kp.put (List.getElem_mem k) (Pg.P8 _) d.1,by rw[List.length_append,List.length_singleton];have:=c.kl;omega⟩,fun a A e=>?_⟩,fun f=>absurd rfl f⟩
   have g:=(c.kp.mem a).1 A;have H:=Pg.P8 (V lp[m]).2;rw[g.2.1,e.1,e.2]at g;exact g.2.2 H
  ·have I:u top=0:=by
    have:=c.tp top;omega
   have n:top∉lp:=fun k=>by have:=(c.cp.mem k).2.2;omega
   have j:top∉lq:=fun k=>by have:=(c.cq.mem k).2.2;omega
   have B:Gg lp∈lp:=(by rw[Pj c.cp.ch.pos];exact List.getElem_mem _);have C:∀ z∈lq,z≠Gg lp:=fun z hz e=>c.dj (Gg lp) B (by rw[← e];exact hz);refine⟨fun _=>⟨d,top,0,rfl,rfl,⟨top+1,_,_,_,lp++[top],lq,l,c.cp.more (by have:=c.t3;omega) v (by omega) _,c.cq.off (fun z hz=>Dr _ _ (fun e=>j (by rw[← e];exact hz))) (fun z hz=>by rw[Dr _ _ (fun e=>j (by rw[← e];exact hz)),Dr _ _ (C z hz)]),
    fun z hz g=>?_,?_,c.q0,iP c.tp,by have:=c.t3;omega,by omega,c.kp.more n d.1,by rw[List.length_append,List.length_singleton];have:=c.kl;omega⟩,fun a A e=>n (by rw[← e.1];exact((c.kp.mem a).1 A).1)⟩,fun f=>absurd rfl f⟩
   ·rw[List.mem_append,List.mem_singleton]at hz
    rcases hz with hz|hz
    ·exact c.dj z hz g
    ·rw[hz]at g;exact j g
   ·rw[List.getElem?_append_left c.cp.ch.pos];exact c.p0
  ·exact⟨fun f=>absurd f (by decide),fun _=>⟨.inl ⟨rfl,d⟩,top,b,u,V,lp,lq,l,c.cp,c.cq,c.dj,c.p0,c.q0,c.tp,c.t3,c.t4,c.kp,by have:=c.kl;omega⟩⟩
 ·refine(Rg s p fs 1 1 rec d w h).mono ?_
  rintro e w' ⟨rfl,r,t⟩;exact⟨s,p,fs,0,0,1,rfl,r,⟨fun f=>absurd f (by decide),fun _=>⟨.inr ⟨rfl,d⟩,D.next⟩⟩,t⟩
theorem wS (s:Tx.St)(p:SP)(fs:List Fr)(m:Pp i kv s fs)(hi:i≤39)(K:Nat)(n:K<kv.length)(rec:ByteArray)(w:World)(o:Fv w)(h:Am w s p fs):
 Cq 11 #[Ah s p,.int .i64 1,.agg #[.int .i64 (kv[K].pg:Int),.int .i64 (kv[K].sl:Int)],rec] w (nC (fun s' fs' z=>(z=0→Pp (i+1) (kv.set K ⟨kv[K].pg,kv[K].sl,rec⟩) s' fs')∧(z≠0→Pp (i+1) kv s' fs')) w):=by
 have d:=m;obtain⟨top,b,u,V,r,t,a⟩:=m;have f:=(a.kp.mem _).1 (List.getElem_mem n);have c:=a.cp.mem f.1;have v:Us i top+2524=Us (i+1) top:=by unfold Us;omega
 refine(uI s p fs a.hv 1 (by simp) ⟨by decide,by decide⟩ (by have:=a.t4;unfold Us;omega) kv[K].pg c.1 c.2.1 c.2.2 kv[K].sl (by rw[← f.2.1];exact f.2.2) rec w o h).mono ?_;rintro e w' ⟨y,x,⟨rfl,s',q,fs',rfl,g,A,j⟩|⟨k,rfl,g,j⟩⟩
 ·have B:=x rfl
  refine⟨s',q,fs',0,rfl,g,⟨fun _=>⟨top,b,u,_,r,t,by rw[← v];exact A,a.cp.Ai _ _,a.cq.Ai _ _,a.dj,a.p0,a.q0,a.tp,a.t3,a.t4,a.kp.set n B.1,by rw[List.length_set];have:=a.kl;omega⟩,fun l=>absurd rfl l⟩,j⟩
 ·exact⟨s,p,fs,y,rfl,g,⟨fun l=>absurd l k,fun _=>d.next⟩,j⟩
theorem wT (s:Tx.St)(p:SP)(fs:List Fr)(g:Pp i kv s fs)(hi:i≤39)(K:Nat)(f:K<kv.length)(w:World)(j:Fv w)(h:Am w s p fs):
 Cq 12 #[Ah s p,.int .i64 1,.agg #[.int .i64 (kv[K].pg:Int),.int .i64 (kv[K].sl:Int)]] w (nC (fun s' fs' z=>z=0∧Pp (i+1) (kv.take K++kv.drop (K+1)) s' fs') w):=by
 obtain⟨top,b,u,V,k,l,a⟩:=g;have d:=(a.kp.mem _).1 (List.getElem_mem f);have c:=a.cp.mem d.1;have m:Us i top+2524=Us (i+1) top:=by unfold Us;omega
 refine(uH s p fs a.hv 1 (by simp) ⟨by decide,by decide⟩ (by have:=a.t4;unfold Us;omega) kv[K].pg c.1 c.2.1 c.2.2 kv[K].sl (by rw[← d.2.1];exact d.2.2) w j h).mono ?_;rintro e w' ⟨s',q,fs',rfl,n,o,r⟩;exact⟨s',q,fs',0,rfl,n,⟨rfl,top,b,u,_,k,l,by rw[← m];exact o,a.cp.Ai _ _,a.cq.Ai _ _,a.dj,a.p0,a.q0,a.tp,a.t3,a.t4,a.kp.cut f,by rw[List.length_append,List.length_take,List.length_drop];have:=a.kl;omega⟩,r⟩
theorem wU (s:Tx.St)(p:SP)(fs:List Fr)(g:Pp i kv s fs)(K:Nat)(j:K<kv.length)(w:World)(h:Am w s p fs):
 Cq 14 #[Ah s p,.agg #[.int .i64 (kv[K].pg:Int),.int .i64 (kv[K].sl:Int)]] w fun e w'=>∃ (s':Tx.St) (q:SP) (fs':List Fr),e= .returned (.tuple #[Ah s' q,.string kv[K].r,()])∧Am w' s' q fs'∧Pp i kv s' fs'∧Bw w w':=by
 obtain⟨top,b,u,V,k,l,a⟩:=g;have d:=(a.kp.mem _).1 (List.getElem_mem j);have c:=a.cp.mem d.1;have f:=wQ s p fs a.hv kv[K].pg c.1 c.2.1 c.2.2 kv[K].sl (by rw[← d.2.1];exact d.2.2) w h;rw[← d.2.1]at f;refine f.mono ?_;rintro e w' ⟨s',q,fs',rfl,m,n,o⟩;exact⟨s',q,fs',rfl,m,⟨top,b,u,V,k,l,n,a.cp,a.cq,a.dj,a.p0,a.q0,a.tp,a.t3,a.t4,a.kp,a.kl⟩,o⟩
end
end Go.Proofs.YtpogpkonojhakaaGreatDoor
