import Derived.Test.YtmfkhdhnbkambaaGreatDoorHw00
import Derived.Test.YtmfkhdhnbkambaaGreatDoorHw30
import Derived.Test.YtmfkhdhnbkambaaGreatDoorHw15
import Derived.Test.YtmfkhdhnbkambaaGreatDoorHw29
set_option maxRecDepth 100000
set_option maxHeartbeats 16000000
set_option linter.unusedSimpArgs false
namespace Go.Proofs.YtmfkhdhnbkambaaGreatDoor
open Go.RowKit Sc
def J7 {α:Type}(V:Nat→α)(p:Nat)(x:α):Nat→α:=fun q=>if q=p then x else V q
theorem E6 {α:Type}(V:Nat→α)(p:Nat)(x:α):J7 V p x p=x:=if_pos rfl
theorem E7 {α:Type}(V:Nat→α){p q:Nat}(x:α)(h:q≠p):J7 V p x q=V q:=if_neg h
theorem SI.Uk {n:Nat}{C a:Nat→ByteArray}{b:ByteArray}{u:Nat→Nat}{V:Nat→Nat×List ByteArray}(h:SI n C b u V){p k:Nat}{rs:List ByteArray}(g:1≤p)(co:∀ q,q≠p→a q=C q)(hk:(Ab (a p)).kind=u p)(i:(Ab (a p)).link=k)(j:(Ab (a p)).Ai=rs):
 SI n a b u (J7 V p (k,rs)):=by
 have f:=co 0 (by omega);refine⟨by rw[f];exact h.k0,by rw[f];exact h.r0,by rw[f];exact h.l0,h.sz,h.bt,fun q c d=>?_,fun q c d=>?_,fun q c d=>?_,h.u0⟩
 ·by_cases e:q=p
  ·rw[e];exact hk
  ·rw[co q e];exact h.kp q c d
 ·by_cases e:q=p
  ·rw[e,E6];exact i
  ·rw[co q e,E7 _ _ e];exact h.lp q c d
 ·by_cases e:q=p
  ·rw[e,E6];exact j
  ·rw[co q e,E7 _ _ e];exact h.rp q c d
theorem sub_le {α:Type}:∀ (l m:List α),l.Nodup→(∀ x∈l,x∈m)→l.length≤m.length
 |[],_,_,_=>Nat.zero_le _
 |a::l,m,hd,hs=>by
  obtain⟨s,t,rfl⟩:=List.append_of_mem (hs a List.mem_cons_self);have hn:=List.nodup_cons.1 hd;have h:=sub_le l (s++t) hn.2 (fun x hx=>by
   have h1:=hs x (List.mem_cons_of_mem _ hx);rw[List.mem_append,List.mem_cons]at h1;rw[List.mem_append];rcases h1 with h1|h1|h1
   ·exact .inl h1
   ·rw[h1]at hx;exact absurd hx hn.1
   ·exact .inr h1)
  rw[List.length_append]at h;rw[List.length_append,List.length_cons,List.length_cons];omega
theorem bG (n:Nat)(l:List Nat)(b:l.Nodup)(h:∀ x∈l,1≤x∧x<n):l.length+1≤n∨l=[]:=by
 by_cases e:l=[]
 ·exact .inr e
 ·left
  have c:(0::l).Nodup:=List.nodup_cons.2 ⟨fun h1=>absurd (h 0 h1).1 (by omega),b⟩;have a:=sub_le (0::l) (List.range n) c (fun x d=>by
   rw[List.mem_range];rcases List.mem_cons.1 d with h1|h1
   ·have:0<l.length:=List.length_pos_iff.2 e
    have:=h l[0] (List.getElem_mem this);omega
   ·exact(h x h1).2)
  rw[List.length_range,List.length_cons]at a;exact a
structure Hc (n:Nat) (u:Nat→Nat) (V:Nat→Nat×List ByteArray) (l:List Nat):Prop where
 ch:aZ n u V l
 nd:l.Nodup
abbrev Ir (l:List Nat):Nat:=(l[l.length-1]?).getD 0
theorem Ub {l:List Nat}(h:0<l.length):Ir l=l[l.length-1]'(by omega):=by
 unfold Ir;rw[List.getElem?_eq_getElem (by omega)];rfl
section
variable {n : Nat} {u : Nat → Nat} {V : Nat → Nat × List ByteArray} {l : List Nat}
theorem Hc.mem (h:Hc n u V l){x:Nat}(a:x∈l):1≤x∧x<n∧u x=2:=by
 obtain⟨j,b,e⟩:=List.getElem_of_mem a;rw[← e];exact h.ch.at_ j b
theorem Hc.off (h:Hc n u V l){b:Nat→Nat}{c:Nat→Nat×List ByteArray}(d:∀ x∈l,b x=u x)(e:∀ x∈l,(c x).1=(V x).1):Hc n b c l:=
 ⟨⟨h.ch.pos,h.ch.len,fun j a=>by rw[d _ (List.getElem_mem a)];exact h.ch.at_ j a,fun j a=>by rw[e _ (List.getElem_mem a)];exact h.ch.ln j a⟩,h.nd⟩
theorem Hc.Ai (h:Hc n u V l)(p:Nat)(rs:List ByteArray):Hc n u (J7 V p ((V p).1,rs)) l:=
 h.off (fun _ _=>rfl) (fun x _=>by
  by_cases e:x=p
  ·rw[e,E6]
  ·rw[E7 _ _ e])
theorem Hc.one {pg:Nat}(b:1≤pg)(c:pg<n)(d:u pg=2)(e:(V pg).1=0):Hc n u V [pg]:=
 ⟨⟨Nat.zero_lt_one,by show 1≤n;omega,fun j a=>by
   obtain rfl:j=0:=(by simp at a;omega);exact⟨b,c,d⟩,fun j a=>by
   obtain rfl:j=0:=(by simp at a;omega);exact e⟩,by simp⟩
theorem Hc.more (h:Hc n u V l){pg:Nat}(k:1≤pg)(m:pg<n)(q:u pg≠2)(rs:List ByteArray):
 Hc n (J7 u pg 2) (J7 (J7 V (Ir l) (pg,(V (Ir l)).2)) pg (0,rs)) (l++[pg]):=by
 have c:pg∉l:=fun hx=>q (h.mem hx).2.2;have d:(l++[pg]).Nodup:=List.nodup_append.2 ⟨h.nd,by simp,fun a o b p e=>by
  rw[List.mem_singleton]at p;rw[e,p]at o;exact c o⟩
 have r:=h.ch.pos;have f:=Ub r;refine⟨⟨by rw[List.length_append];omega,?_,fun j g=>?_,fun j g=>?_⟩,d⟩
 ·rcases bG n (l++[pg]) d (fun x hx=>by
   rcases List.mem_append.1 hx with hx|hx
   ·exact⟨(h.mem hx).1,(h.mem hx).2.1⟩
   ·rw[List.mem_singleton]at hx;rw[hx];exact⟨k,m⟩)with h5|h5
  ·omega
  ·simp at h5
 ·rw[List.length_append,List.length_singleton]at g
  by_cases e:j<l.length
  ·rw[List.getElem_append_left e,E7 _ _ (fun i=>c (by rw[← i];exact List.getElem_mem e))]
   exact h.ch.at_ j e
  ·obtain rfl:j=l.length:=by omega
   rw[List.getElem_append_right (Nat.le_refl _)];simp only[Nat.sub_self,List.getElem_cons_zero];exact⟨k,m,E6 _ _ _⟩
 ·rw[List.length_append,List.length_singleton]at g
  by_cases e:j<l.length
  ·rw[List.getElem_append_left e,E7 _ _ (fun i=>c (by rw[← i];exact List.getElem_mem e))]
   by_cases s:j+1<l.length
   ·rw[E7 _ _ (by
     rw[f];exact List.pairwise_iff_getElem.1 h.nd j (l.length-1) e (by omega) (by omega)),h.ch.ln j e,List.getElem?_append_left s]
   ·obtain t:j=l.length-1:=by omega
    subst t;rw[← f,E6,List.getElem?_append_right (by omega),show l.length-1+1-l.length=0 from by omega]
    rfl
  ·obtain rfl:j=l.length:=by omega
   rw[List.getElem_append_right (Nat.le_refl _),List.getElem?_eq_none (by rw[List.length_append,List.length_singleton];omega)];simp only[Nat.sub_self,List.getElem_cons_zero];rw[E6];rfl
end
theorem Uc (P:Nat→Prop):∀ n:Nat,∃ m,m≤n∧(∀ j,j<m→¬ P j)∧(m<n→P m)
 |0=>⟨0,Nat.le_refl _,fun _ h=>absurd h (by omega),fun h=>absurd h (by omega)⟩
 |n+1=>by
  obtain⟨m,h1,h2,h3⟩:=Uc P n
  by_cases e:m<n
  ·exact⟨m,by omega,h2,fun _=>h3 e⟩
  ·obtain rfl:m=n:=by omega
   by_cases hp:P m
   ·exact⟨m,by omega,h2,fun _=>hp⟩
   ·refine⟨m+1,Nat.le_refl _,fun j hj=>?_,fun h=>absurd h (by omega)⟩
    by_cases ej:j=m
    ·rw[ej];exact hp
    ·exact h2 j (by omega)
def HV (N n k:Nat)(ids:List Int)(c:Int)(b:ByteArray)(u:Nat→Nat)(V:Nat→Nat×List ByteArray)(s:Tx.St)(fs:List Fr):Prop:=
 ∃ C:Nat→ByteArray,SS N n k ids c s fs C∧SI n C b u V
theorem HV.more {N n k:Nat}{ids:List Int}{c a:Int}{b:ByteArray}{u:Nat→Nat}{V:Nat→Nat×List ByteArray}{s:Tx.St}{fs:List Fr}(h:HV N n k ids c b u V s fs)(d:c≤a):HV N n k ids a b u V s fs:=by
 obtain⟨C,e,f⟩:=h;exact⟨C,e.more d,f⟩
theorem gX {N n k:Nat}{ids:List Int}{c:Int}{C:Nat→ByteArray}{b:ByteArray}{u:Nat→Nat}{V:Nat→Nat×List ByteArray}{s:Tx.St}{fs:List Fr}(d:SS N n k ids c s fs C)(e:SI n C b u V){p:Nat}(f:1≤p)(a:p<n):Jf (C p)=Je (V p).2:=by
 unfold Jf;rw[if_pos (d.pi.nm p a).is,e.rp p f a]
theorem V1 (p:ByteArray)(o:Im)(hk:o.kind=1∨o.kind=2∨o.kind=3∨o.kind=6)(a:p.size≤140737488355328)(b:o.new.size≤140737488355328)(w:World)(c:Gl w):
 Cr 126 #[p,Gb o] w (.tuple #[.string (Cb p o).1,.bool (Cb p o).2]):=by
 rcases hk with hk|hk|hk|hk
 ·exact vQ p o hk a b w c
 ·exact vR p o hk a b w c
 ·exact gN p o hk a b w
 ·exact vS p o hk a b w c
theorem bH (p:ByteArray)(o:Im)(hk:o.kind=1∨o.kind=2∨o.kind=3∨o.kind=6)(g:p.size≤140737488355328)(h:o.new.size≤140737488355328)(w:World)(i:Gl w):
 Cr 125 #[p,Gb o] w (.bool (Dm p o)):=by
 have d:=Hq (fun W j=>V1 p o hk g h W j);have f:=Hq (fun W=>M0 p g W);have HV:=Hq (i.below (Ac w (.cells #[o.kind,o.slot,o.By,o.new] 42)));unfold Dm;generalize Bk p=b at f ⊢;generalize Cb p o=x at d ⊢;obtain⟨m,n⟩:=x;obtain⟨kind,slot,By,new⟩:=o;dsimp only[Gb]at d HV ⊢;clear i h
 cases b with
 |true=>
  go_enter Tryz.func125,Tryz.ntmps125
  go_wp2_with(first|(go_at_call 126;refine(d.out _ HV.out).mono ?_;rintro e k ⟨rfl,a⟩)|(go_at_call 136;refine(f.out _).mono ?_;rintro e l ⟨rfl,c⟩))
  go_ret;exact⟨by simp,Ag (Ag (Ac _ _) a) c⟩
 |false=>
  go_enter Tryz.func125,Tryz.ntmps125
  go_wp2_with(first|(go_at_call 126;refine(d.out _ HV.out).mono ?_;rintro e k ⟨rfl,a⟩)|(go_at_call 136;refine(f.out _).mono ?_;rintro e l ⟨rfl,c⟩))
  go_ret;exact⟨by simp,Ag (Ag (Ac _ _) a) c⟩
theorem tV (p:ByteArray)(o:Im)(hk:o.kind=1∨o.kind=2∨o.kind=3∨o.kind=6)(m:p.size≤140737488355328)(g:o.new.size≤140737488355328)(w:World)(n:Gl w):
 Cr 78 #[p,Gb o] w (Kn (S1 p o)):=by
 have i:=Hq (fun W j=>V1 p o hk m g W j);have f:=Hq (fun W j=>bH p o hk m g W j);have q:=Hq (Eo w o 42);have HV:=Hq (n.below (Ac w (.cells #[o.kind,o.slot,o.By,o.new] 42)));have c:=Hq (fun h=>Tw (p:=p) (o:=o) h);have d:=Hq (fun h=>qC (p:=p) (o:=o) h);generalize S1 p o=R at c d ⊢;generalize Dm p o=b at f c d;generalize Cb p o=x at i c;obtain⟨t,u⟩:=x;obtain⟨kind,slot,By,new⟩:=o;dsimp only[Gb]at i f HV q ⊢;clear n g
 cases b with
 |true=>
  have k:=Hq (c.out rfl);clear c d;go_enter Tryz.func78,Tryz.ntmps78
  go_wp2_with(first|(go_at_call 125;refine(f.out _ HV.out).mono ?_;rintro e r ⟨rfl,a⟩;obtain⟨c0,s,c2,c3,-⟩:=(q.out.step a).v;dsimp only at c0 s c2 c3)|(go_at_call 126;refine(i.out _ (HV.out.below a)).mono ?_;rintro e y ⟨rfl,l⟩))
  go_ret2;exact⟨by rw[k.out];rfl,Ag (Ag (Ac _ _) a) l⟩
 |false=>
  have k:=Hq (d.out rfl);clear c d;go_enter Tryz.func78,Tryz.ntmps78
  go_wp2_with((go_at_call 125;refine(f.out _ HV.out).mono ?_;rintro e r ⟨rfl,a⟩))
  go_ret2;exact⟨by rw[k.out];rfl,Ag (Ac _ _) a⟩
theorem qY {α:Type}(V:Nat→α){p q:Nat}(x y:α)(h:p≠q):J7 (J7 V p x) q y=J7 (J7 V q y) p x:=by
 funext z
 unfold J7
 by_cases e:z=q
 ·rw[if_pos e,if_neg (fun a=>h (a.symm.trans e)),if_pos e]
 ·rw[if_neg e,if_neg e]
theorem gY {α:Type}(V:Nat→α)(p:Nat)(x y:α):J7 (J7 V p x) p y=J7 V p y:=by
 funext z
 unfold J7
 by_cases e:z=p
 ·rw[if_pos e,if_pos e]
 ·rw[if_neg e,if_neg e,if_neg e]
section
variable {N n k : Nat} {ids : List Int} {c : Int} {b : ByteArray} {u : Nat → Nat} {V : Nat → Nat × List ByteArray}
theorem vZ (u:Nat→Nat):∀ n:Nat,∃ low,low≤n∧Q5 u low∧(low<n→¬ 0<u low):=fun n=>by
 obtain⟨m,a,b,c⟩:=Uc (fun q=>¬ 0<u q) n;exact⟨m,a,fun q d=>Classical.byContradiction fun e=>b q d e,c⟩
theorem Xu (s:Tx.St)(p:SP)(fs:List Fr){C:Nat→ByteArray}(g:SS N n k ids c s fs C)(H:SI n C b u V)(M:c+1634≤(N:Int)*128)(t:Int)(O:t∈ids)(i:Rc.num t)(pg:Nat)(I:1≤pg)(a:pg<n)
 (o:Im) (hk:o.kind=1∨o.kind=2∨o.kind=3∨o.kind=6) (j:Rc.sl o.slot) (m:o.By.size≤512) (r:o.new.size≤512) (q:ByteArray) (P:S1 (C pg) o=(q,0)) (J:Lu q) (x:Nat) (rs:List ByteArray) (d:Ab q=⟨(Ab (C pg)).lsn,(Ab (C pg)).kind,x,rs⟩) (w:World) (y:Gl w) (h:Am w s p fs):
 Cq 56 #[Ah s p,t,.int .i64 (pg:Int),.agg #[o.kind,o.slot,o.By,o.new]] w (gU (fun s2 fs2 z=>z=0∧HV N n k ids (c+1634) b u (J7 V pg (x,rs)) s2 fs2) w):=by
 have A:=g.pi.nm pg a;have K:=g.pi.n1.2.1;refine(aY s p fs C g M t O pg a ⟨o.kind,o.slot,o.By,o.new⟩ q (fun l v d y=>.change l v t pg _ 1 0 Rc.Ce d y i ⟨by omega,by omega⟩ ⟨by show 1≤o.kind;omega,by show o.kind≤7;omega,j,m,r⟩ (.inl ⟨rfl,rfl,rfl⟩)) J w (fun W Q=>?_) h).mono ?_
 ·have L:=tV (C pg) o hk (by rw[A.size];omega) (by omega) W (y.below Q)
  rw[P]at L;exact L
 ·rintro e w' ⟨R,S,B,l,rfl,D,E,f,F⟩
  have G:=P6 J f.lr;refine⟨R,S,B,0,rfl,D,⟨rfl,_,g.ch f E,H.Uk I (fun z T=>if_neg T) ?_ ?_ ?_⟩,F⟩
  ·rw[if_pos rfl,G.2,d];exact H.kp pg I a
  ·rw[if_pos rfl,G.2,d]
  ·rw[if_pos rfl,G.2,d]
theorem qZ (s:Tx.St)(p:SP)(fs:List Fr)(d:HV N n k ids c b u V s fs)(X:c+1072≤(N:Int)*128)(t:Int)(B:t∈ids)(r:Rc.num t)(D:1≤t)(m:Int)(M:Rc.num m)(w:World)(h:Am w s p fs):
 Cq 114 #[Ah s p,t,m] w (gU (fun s2 fs2 z=>z=0∧HV N n k ids (c+1072) b u V s2 fs2) w):=by
 obtain⟨C,d,P⟩:=d;have Q:=d.used;have E:=d.pi.tF;obtain⟨a,R,F⟩:=d.tx.ex B;obtain⟨i,l⟩:∃ i,Tx.Cv s.txns t=some i:=by
  cases S:Tx.Cv s.txns t with
  |none=>exact absurd F (Tx.Qt S a R)
  |some i=>exact⟨i,rfl⟩
 obtain⟨q,v,-⟩:=Tx.F3 l;have G:=Tx.Oi l q;have f:=List.getElem_mem q;have H:=d.tx.all _ f;have T:Rc.Bu {({Tx.Z5 m with txn:=t,prev:=s.txns[i].last}:Rc.Rec)with lsn:=s.log.end_+1}:=.nest _ _ _ _ d.pi.num.1 H.2.1 r M;obtain⟨g2,e,g,Y,Z⟩:=d.pi.log {Tx.Z5 m with txn:=t,prev:=s.txns[i].last} T (by show(4:Int)≠9;decide) (by omega) (fun h=>absurd (show(4:Int)=2 from h) (by decide));have U:=Tx.sL (s:=s) e;have y:Tx.Tb s t m=({s with log:=g2,txns:=Tx.El s.txns {({Tx.Z5 m with txn:=t,prev:=s.txns[i].last}:Rc.Rec)with lsn:=s.log.end_+1}},0):=by
  unfold Tx.Tb Tx.O8;rw[G,if_neg (by simp),if_neg (by rw[d.tx.op _ f];simp)];exact U
 have I:Tx.El s.txns {({Tx.Z5 m with txn:=t,prev:=s.txns[i].last}:Rc.Rec)with lsn:=s.log.end_+1}=s.txns.set i ⟨t,s.log.end_+1,m,false⟩:=by
  unfold Tx.El;rw[if_neg (by rw[Classical.not_not];exact⟨D,(by show(1:Int)≤4;decide),(by show(4:Int)≤7;decide)⟩)]
  show(match Tx.Cv s.txns t with|none=>_|some i=>_)=_
  rw[l]
  show(if(4:Int)=7 then _ else _)=_
  rw[if_neg (by decide),List.set_eq_take_append_cons_drop,if_pos q,List.getElem?_eq_getElem q];unfold Tx.O7;rw[Option.getD_some,v,d.tx.op _ f]
  rfl
 rw[I]at y;have B:=mI s p E d.tx.small t m w h.st;rw[y]at B;refine B.mono ?_;rintro e w' ⟨W,rfl,J,⟨A,K,L⟩,O⟩;refine⟨_,W,fs,0,rfl,?_,⟨rfl,C,⟨⟨g.zl,g.zp,g.n1,g.pw,g.nf,g.hd,g.fr,g.nm,g.dk⟩,⟨?_,fun x o=>?_,d.tx.len,fun x o=>?_⟩,d.nf,by show g2.end_≤c+1072;omega⟩,P⟩,O⟩
 ·have o:=h.below O
  exact⟨J,by rw[K];exact o.fn,by rw[A,L];exact o.fr,by rw[A];exact o.ft⟩
 ·show(s.txns.set i _).map _=ids
  rw[← d.tx.tl]
  apply List.ext_getElem?
  intro j;rw[List.getElem?_map,List.getElem?_map]
  by_cases e:i=j
  ·subst e
   rw[List.getElem?_set_self q,List.getElem?_eq_getElem q];exact congrArg some v.symm
  ·rw[List.getElem?_set_ne e]
 ·rcases List.mem_or_eq_of_mem_set o with h4|h4
  ·exact d.tx.all x h4
  ·rw[h4];exact⟨r,d.pi.num.1,M⟩
 ·rcases List.mem_or_eq_of_mem_set o with h4|h4
  ·exact d.tx.op x h4
  ·rw[h4]
theorem rA {s:Tx.St}{fs:List Fr}{C:Nat→ByteArray}(d:SS N n k ids c s fs C)(t:Int):Rc.num (Tx.Zz s t):=by
 unfold Tx.Zz
 cases a:Tx.Cv s.txns t with
 |none=>rw[Tx.Te a];exact⟨by decide,by decide⟩
 |some i=>
  obtain⟨b,-,-⟩:=Tx.F3 a;rw[Tx.Oi a b];exact(d.tx.all _ (List.getElem_mem b)).2.1
def xW (N n k:Nat)(ids:List Int)(c:Int)(b:ByteArray)(u:Nat→Nat)(V:Nat→Nat×List ByteArray)(pg:Nat)(s:Tx.St)(fs:List Fr)(x y:Int):Prop:=
 (y=0∧x=(pg:Int)∧pg<n∧HV N n k ids c (Dw b pg) (J7 u pg 2) V s fs)∨(y=18∧pg=n)
theorem eT (s:Tx.St)(p:SP)(fs:List Fr){C:Nat→ByteArray}(v:SS N n k ids c s fs C)(X:SI n C b u V)(t:Int)(I:t∈ids)(l:Rc.num t)(J:1≤t)(last:Nat)(m:1≤last)(f:last<n)(K:(V last).1=0)(pg:Nat)(a1:pg≤n)(z:Q5 u pg)(A:pg<n→¬ 0<u pg)(L:0<u last)
 (M:pg<n→c+5974≤(N:Int)*128) (w:World) (Y:Gl w) (h:Am w s p fs):
 Cq 55 #[Ah s p,t,.int .i64 (last:Int)] w (J6 (xW N n k ids (c+5974) b u (J7 (J7 V pg (0,[])) last (pg,(V last).2)) pg) w):=by
 have Z:=v.pi.n1.2.1;refine bA s p fs t last (Tx.Zz s t) (xW N n k ids (c+3268) b u (J7 V pg (0,[])) pg) (fun x s2 g y=>y=0∧x=(pg:Int)∧pg<n∧HV N n k ids (c+4902) (Dw b pg) (J7 u pg 2) (J7 (J7 V pg (0,[])) last (pg,(V last).2)) s2 g) _ w ?_ ?_ ?_ ?_ ?_ ?_ ?_
 ·intro W i
  exact kK s p t v.tx.small W (h.below i).st
 ·intro W i
  by_cases a:pg<n
  ·refine(T8 s p fs C v (by have:=M a;omega) t I l b u X 2 ⟨by decide,by decide⟩ pg a z (A a) W (h.below i)).mono ?_
   rintro e w' ⟨B,q,d,C',rfl,h1,j,D,O⟩;exact⟨B,q,d,_,_,rfl,h1,.inl ⟨rfl,rfl,a,C',j,D⟩,O⟩
  ·obtain rfl:pg=n:=by omega
   refine(Qy s p fs C v b u X t 2 ⟨by decide,by decide⟩ z W (h.below i)).mono ?_;rintro e w' ⟨rfl,h1⟩;exact⟨s,p,fs,0,18,rfl,(h.below i).below h1,.inr ⟨rfl,rfl⟩,h1⟩
 ·rintro s1 o x y (⟨h1,-⟩|h1) j
  ·exact absurd h1 j
  ·exact .inr h1
 ·rintro s1 o x (⟨-,rfl,a,-⟩|⟨h1,-⟩) W i
  ·exact Tu (pg:Int) (by omega) (by omega) W (Y.below i)
  ·exact absurd h1 (by decide)
 ·rintro s1 q1 o x (⟨-,rfl,a,C1,E,r⟩|⟨h1,-⟩) W i P
  ·have F:last≠pg:=fun e=>A a (e▸L)
   have Q:=E.pi.nm last f;have G:(Ab (C1 last)).link=0:=(by rw[r.lp last m f,E7 _ _ F];exact K);have R:(Ab (C1 last)).Ai=(V last).2:=(by rw[r.rp last m f,E7 _ _ F]);obtain⟨H,S,T⟩:=tU Q G (k:=pg) (by omega);have h0:F1 0=⟨#[48]⟩:=(by decide+kernel);have U:(F1 (pg:Int)).size≤512:=by
    have:∀ x:Nat,x<61→(F1 ((x:Nat):Int)).size≤512:=(by decide+kernel);exact this pg (by omega)
   rw[h0]at H;refine(Xu (c:=c+3268) s1 q1 o E r (by have:=M a;omega) t I l last m f ⟨6,0,⟨#[48]⟩,F1 (pg:Int)⟩ (.inr (.inr (.inr rfl))) ⟨by show(0:Int)≤0;decide,by show(0:Int)<32768;decide⟩ (by show(⟨#[48]⟩:ByteArray).size≤512;decide) U _ H S pg (V last).2 (by rw[T,R]) W (Y.below i) P).mono ?_;rintro e w' ⟨B,q,d,y,rfl,h1,⟨rfl,j⟩,D⟩;exact⟨B,q,d,0,rfl,h1,⟨rfl,rfl,a,by rw[show c+4902=c+3268+1634 from by omega];exact j⟩,D⟩
  ·exact absurd h1 (by decide)
 ·rintro x s2 g y ⟨h1,-⟩ j
  exact absurd h1 j
 ·rintro x s2 q2 g ⟨-,rfl,a,j⟩ W P
  refine(qZ s2 q2 g j (by have:=M a;omega) t I l J _ (rA v t) W P).mono ?_;rintro e w' ⟨B,q,d,y,rfl,D,⟨rfl,O⟩,h5⟩;exact⟨B,q,d,0,rfl,D,.inl ⟨rfl,rfl,a,by rw[show c+5974=c+4902+1072 from by omega];exact O⟩,h5⟩
def yK (N n k:Nat)(ids:List Int)(c:Int)(b:ByteArray)(u:Nat→Nat)(V:Nat→Nat×List ByteArray)(l:List Nat)(rec:ByteArray)(s:Tx.St)(p:SP)(fs:List Fr)(w:World)(e:Ending)(w':World):Prop:=
 (∃ (m:Nat) (hm:m<l.length) (s':Tx.St) (q:SP) (fs':List Fr),e= .returned (.tuple #[Ah s' q,.agg #[.int .i64 (l[m]:Int),.int .i64 ((Pg.Db (V l[m]).2:Nat):Int)],()])∧Am w' s' q fs'∧
   HV N n k ids (c+1634) b u (J7 V l[m] ((V l[m]).1,Kg (V l[m]).2 (Pg.Db (V l[m]).2) rec)) s' fs'∧(rec.size:Int)≤Je (V l[m]).2∧(∀ j (hj:j<l.length),j<m→¬ (rec.size:Int)≤Je (V l[j]).2)∧Bw w w')∨
 (∃ (pg:Nat) (s':Tx.St) (q:SP) (fs':List Fr),e= .returned (.tuple #[Ah s' q,.agg #[.int .i64 (pg:Int),()],()])∧Am w' s' q fs'∧pg<n∧Q5 u pg∧¬ 0<u pg∧
   HV N n k ids (c+7608) (Dw b pg) (J7 u pg 2) (J7 (J7 V (Ir l) (pg,(V (Ir l)).2)) pg (0,[rec])) s' fs'∧(∀ j (hj:j<l.length),¬ (rec.size:Int)≤Je (V l[j]).2)∧Bw w w')∨
 (e= .returned (.tuple #[Ah s p,.agg #[(),()],.int .i64 18])∧Am w' s p fs∧Q5 u n∧(∀ j (hj:j<l.length),¬ (rec.size:Int)≤Je (V l[j]).2)∧Bw w w')
theorem eU {r:ByteArray}(h:1≤r.size):Kg [] 0 r=[r]:=by
 unfold Kg Pg.trim
 show List.take (Pg.Dv [r] 1) [r]=[r]
 unfold Pg.Dv;rw[if_neg (by show ¬ r.size=0;omega)]
 rfl
theorem getD_lt {l:List Nat}{j:Nat}(h:j<l.length):(l[j]?).getD 0=l[j]:=by rw[List.getElem?_eq_getElem h];rfl
theorem gZ (s:Tx.St)(p:SP)(fs:List Fr)(hS:HV N n k ids c b u V s fs)(l:List Nat)(K:Hc n u V l)(t:Int)(ht:t∈ids)(U:Rc.num t)(aa:1≤t)(r:Int)(hr:r=((l[0]?).getD 0:Nat))(rec:ByteArray)(L:1≤rec.size∧rec.size≤400)
 (hc:c+1634≤(N:Int)*128) (a6:¬ Q5 u n→c+7608≤(N:Int)*128) (w:World) (hv:Gl w) (h:Am w s p fs):
 Cq 19 #[Ah s p,t,r,rec] w (yK N n k ids c b u V l rec s p fs w):=by
 obtain⟨C,hS,T⟩:=hS;have aj:=hS.pi.n1.2.1;obtain⟨m,ad,ae,X⟩:=Uc (fun j=>(rec.size:Int)≤Je (V ((l[j]?).getD 0)).2) l.length;obtain⟨pg,af,Y,G⟩:=vZ u n;have ag:=K.ch.pos;have a7:=Ub ag;have M:=K.mem (x:=Ir l) (by rw[a7];exact List.getElem_mem _);have ah:(V (Ir l)).1=0:=by
  have h9:=K.ch.ln (l.length-1) (by omega);rw[a7,h9,List.getElem?_eq_none (by omega)];rfl
 have a8:pg<n→¬ Q5 u n:=fun f F=>G f (F pg f);have O:pg<n→pg≠Ir l:=fun f F=>G f (by rw[F,M.2.2];decide);have Z:∀ j (a:j<l.length),Jf (C l[j])=Je (V l[j]).2:=fun j a=>gX hS T (K.ch.at_ j a).1 (K.ch.at_ j a).2.1;have hF:∀ j (a:j<l.length),j<m→¬ (rec.size:Int)≤Je (V l[j]).2:=fun j a a1=>by
  have:=ae j a1
  rwa[getD_lt a]at this
 refine(bB s p fs hS T l K.ch t r hr rec L m ad (fun j a a1=>by rw[Z j a];exact hF j a a1) (fun a=>by
  have:=X a;rw[getD_lt a]at this;rw[Z m a];exact this) (if a:m<l.length then((Pg.Db (V l[m]).2:Nat):Int)else 0) (fun a=>by
  rw[dif_pos a,T.rp _ (K.ch.at_ m a).1 (K.ch.at_ m a).2.1])
  (fun s1 o x y=>m=l.length∧xW N n k ids (c+5974) b u (J7 (J7 V pg (0,[])) (Ir l) (pg,(V (Ir l)).2)) pg s1 o x y)
  (fun H g x y=>(∃ a:m<l.length,x=(l[m]:Int)∧y=((Pg.Db (V l[m]).2:Nat):Int)∧HV N n k ids (c+1634) b u (J7 V l[m] ((V l[m]).1,Kg (V l[m]).2 (Pg.Db (V l[m]).2) rec)) H g)∨
    (m=l.length∧x=(pg:Int)∧y=0∧pg<n∧HV N n k ids (c+7608) (Dw b pg) (J7 u pg 2) (J7 (J7 V (Ir l) (pg,(V (Ir l)).2)) pg (0,[rec])) H g))
  (fun z=>z=18∧pg=n∧m=l.length) w ?_ ?_ ?_ h).mono ?_
 ·intro v s1 q1 o i W hb hp
  refine(eT s1 q1 o i T t ht U aa (Ir l) M.1 M.2.1 ah pg af Y G (by rw[M.2.2];decide) (fun f=>by have:=a6 (a8 f);omega) W (hv.below hb) hp).mono ?_;rintro e w' ⟨H,q,g,x,y,rfl,f,F,h3⟩;exact⟨H,q,g,x,y,rfl,f,⟨v,F⟩,h3⟩
 ·rintro s1 o x y ⟨v,⟨f,-⟩|⟨f,F⟩⟩ h3
  ·exact absurd f h3
  ·exact⟨by omega,f,F,v⟩
 ·rintro s1 q1 o x y (⟨a,i,rfl,rfl⟩|⟨⟨v,f⟩,rfl⟩) W hb hp
  ·have A:=K.ch.at_ m a
   have D:=X a;rw[getD_lt a]at D;rw[dif_pos a,getD_lt a];obtain⟨I,B⟩:=qV (i.pi.nm l[m] A.2.1) L (by rw[Z m a];exact D);have E:=T.rp l[m] A.1 A.2.1;have J:=T.lp l[m] A.1 A.2.1;rw[E]at I B;have ak:=Pg.Ru (V l[m]).2;have ai:=(Cj (C l[m])).fine.len;rw[E]at ai;refine(Xu s1 q1 o i T hc t ht U l[m] A.1 A.2.1 ⟨1,((Pg.Db (V l[m]).2:Nat):Int),⟨#[]⟩,rec⟩ (.inl rfl) ⟨by show(0:Int)≤((Pg.Db (V l[m]).2:Nat):Int);omega,by show((Pg.Db (V l[m]).2:Nat):Int)<32768;omega⟩ (by show(⟨#[]⟩:ByteArray).size≤512;decide) (by show rec.size≤_;omega) _ I B.nm (V l[m]).1 (Kg (V l[m]).2 (Pg.Db (V l[m]).2) rec) (by rw[B.leaf,← J,E];rfl) W (hv.below hb) hp).mono ?_;rintro e w' ⟨H,q,g,y,rfl,f,⟨rfl,F⟩,h3⟩;exact⟨H,q,g,0,rfl,f,⟨rfl,.inl ⟨a,rfl,rfl,F⟩⟩,h3⟩
  ·rcases f with⟨-,rfl,d,C1,i,P⟩|⟨f,-⟩
   ·have Q:1≤pg:=by
     rcases Nat.eq_zero_or_pos pg with h9|h9
     ·exact absurd (by rw[h9,T.u0];decide) (G d)
     ·exact h9
    have E:(Ab (C1 pg)).Ai=[]:=(by rw[P.rp pg Q d,E7 _ _ (O d),E6]);have J:(Ab (C1 pg)).link=0:=(by rw[P.lp pg Q d,E7 _ _ (O d),E6]);have D:(rec.size:Int)≤Jf (C1 pg):=by
     rw[gX i P Q d,E7 _ _ (O d),E6]
     show _≤Je []
     rw[show Je []=400 from by decide];omega
    obtain⟨I,B⟩:=qV (i.pi.nm pg d) L D;rw[E]at I B;refine(Xu s1 q1 o i P (by have:=a6 (a8 d);omega) t ht U pg Q d ⟨1,0,⟨#[]⟩,rec⟩ (.inl rfl) ⟨by show(0:Int)≤0;decide,by show(0:Int)<32768;decide⟩ (by show(⟨#[]⟩:ByteArray).size≤512;decide) (by show rec.size≤_;omega) _ I B.nm 0 [rec] (by
     rw[B.leaf]
     show A6 (C1 pg) (Kg (Ab (C1 pg)).Ai 0 rec)=_
     rw[E,eU L.1,← J];rfl) W (hv.below hb) hp).mono ?_
    rintro e w' ⟨H,q,g,y,rfl,f,⟨rfl,F⟩,h3⟩;refine⟨H,q,g,0,rfl,f,⟨rfl,.inr ⟨v,rfl,rfl,d,?_⟩⟩,h3⟩;rw[qY V _ _ (O d),gY,show c+5974+1634=c+7608 from by omega]at F;exact F
   ·exact absurd f (by decide)
 ·rintro e w' (⟨H,q,g,x,y,rfl,R,(⟨a,rfl,rfl,f⟩|⟨v,rfl,rfl,d,f⟩),S⟩|⟨z,rfl,R,⟨rfl,rfl,v⟩,S⟩)
  ·refine .inl ⟨m,a,H,q,g,rfl,R,f,?_,hF,S⟩
   have:=X a
   rwa[getD_lt a]at this
  ·exact .inr (.inl ⟨pg,H,q,g,rfl,R,d,Y,G d,f,fun j a=>hF j a (by omega),S⟩)
  ·exact .inr (.inr ⟨rfl,R,Y,fun j a=>hF j a (by omega),S⟩)
end
structure Kv where
 pg:Nat
 sl:Nat
 r:ByteArray
def Jr (x:Kv):List Value:=[.int .i64 (x.pg:Int),.int .i64 (x.sl:Int)]
theorem bI (x:Kv):(Jr x).length=2:=rfl
def Q1 (pg:Nat)(rs:List ByteArray):Nat→List Kv
 |0=>[]
 |j+1=>if(Pg.Cy rs j).size=0 then Q1 pg rs j else Q1 pg rs j++[⟨pg,j,Pg.Cy rs j⟩]
def Gg (V:Nat→Nat×List ByteArray)(l:List Nat):List Kv:=l.flatMap fun pg=>Q1 pg (V pg).2 (V pg).2.length
section
variable {V : Nat → Nat × List ByteArray} {l : List Nat} {kv : List Kv}
end
section
variable {N n k : Nat} {ids : List Int} {c : Int} {b : ByteArray} {u : Nat → Nat} {V : Nat → Nat × List ByteArray}
theorem Xv (s:Tx.St)(p:SP)(fs:List Fr)(f:HV N n k ids c b u V s fs)(t:Int)(o:t∈ids)(i:Rc.num t)(pg:Nat)(r:pg≤n)(d:Q5 u pg)(j:pg<n→¬ 0<u pg)(v:pg<n→c+3268≤(N:Int)*128)(w:World)(h:Am w s p fs):
 Cq 16 #[Ah s p,t] w (J6 (fun s' fs' x y=>xW N n k ids (c+3268) b u (J7 V pg (0,[])) pg s' fs' x y∧(y≠0→s'=s∧fs'=fs)) w):=by
 obtain⟨C,f,m⟩:=f;refine qT s p t _ w (fun W l=>?_)
 by_cases a:pg<n
 ·refine(T8 s p fs C f (v a) t o i b u m 2 ⟨by decide,by decide⟩ pg a d (j a) W (h.below l)).mono ?_
  rintro e w' ⟨s',q,fs',z,rfl,g,A,B,D⟩;exact⟨s',q,fs',_,_,rfl,g,⟨.inl ⟨rfl,rfl,a,z,A,B⟩,fun h=>absurd rfl h⟩,D⟩
 ·obtain rfl:pg=n:=by omega
  refine(Qy s p fs C f b u m t 2 ⟨by decide,by decide⟩ d W (h.below l)).mono ?_;rintro e w' ⟨rfl,g⟩;exact⟨s,p,fs,0,18,rfl,(h.below l).below g,⟨.inr ⟨rfl,rfl⟩,fun _=>⟨rfl,rfl⟩⟩,g⟩
end
end Go.Proofs.YtmfkhdhnbkambaaGreatDoor
