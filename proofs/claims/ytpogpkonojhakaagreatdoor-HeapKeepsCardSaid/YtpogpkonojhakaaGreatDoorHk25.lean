import Derived.Test.YtpogpkonojhakaaGreatDoorHk00
import Derived.Test.YtpogpkonojhakaaGreatDoorHk11
import Derived.Test.YtpogpkonojhakaaGreatDoorHk15
import Derived.Test.YtpogpkonojhakaaGreatDoorHk20
import Derived.Test.YtpogpkonojhakaaGreatDoorHk22
import Derived.Test.YtpogpkonojhakaaGreatDoorHk51
set_option maxRecDepth 100000
set_option maxHeartbeats 16000000
set_option linter.unusedSimpArgs false
namespace Go.Proofs.YtpogpkonojhakaaGreatDoor
open Go.RowKit Sc
section
variable {N n : Nat} {s : Tx.St} {fs : List Fr} {C : Nat → ByteArray}
theorem PI.pq (h:PI N n s fs C):PQ N n s fs C:=⟨h.zl,h.zp,h.pw,⟨h.fr.at_,h.fr.ds⟩,h.nm,h.dk⟩
theorem Wf.np (h:Wf N n 0 s fs):NP fs:=fun x a=>by
 obtain⟨i,b,rfl⟩:=List.getElem_of_mem a;have:=(h.fr i b).pn;omega
theorem PQ.pi (h:PQ N n s fs C)(a:Wf N n 0 s fs):PI N n s fs C:=
 ⟨h.zl,h.zp,a.n1,h.pw,a.nf,a.hd,⟨h.fr.at_,h.fr.ds,fun i b=>by have:=(a.fr i b).pn;omega,fun i b=>(a.fr i b).rc,fun i b=>(a.fr i b).sz⟩,h.nm,h.dk⟩
theorem fD (b:Wf N n 0 s fs)(h:PQ N n s fs C){p:Nat}(c:p<n):(Bg s fs (p:Int)).1.e=0:=by
 have g:=h.zp;have d:Ok s (p:Int):=⟨by omega,by omega⟩;unfold Bg;rw[if_neg (fun a=>a d)]
 cases f:Yn fs (p:Int)with
 |some k=>rfl
 |none=>
  simp only;rw[h.read c (Ty (eK f)),if_neg (fun a=>a rfl),if_pos (tL b h.pw b.np).1]
theorem iE (a:Wf N n 0 s fs)(h:PI N n s fs C){p:Nat}(b:p<n):PI N n (Bg s fs (p:Int)).1.s (Bg s fs (p:Int)).1.fs C∧Kp s (Bg s fs (p:Int)).1.s∧(Dt (Bg s fs (p:Int)).1.fs (Bg s fs (p:Int)).2).bytes=C p:=by
 have c:=fD a h.pq b;rcases h.pq.held a b with⟨_,d,e,f⟩|h1
 ·exact⟨d.pi (a.held (p:Int)).1,e,f⟩
 ·rw[h1]at c;exact absurd c (by show ¬ (18:Int)=0;decide)
theorem wL (b:Wf N n 0 s fs)(h:PI N n s fs C){p:Nat}(c:p<n):(Np s fs (p:Int)).1.e=0∧(Np s fs (p:Int)).2=C p∧Wf N n 0 (Np s fs (p:Int)).1.s (Np s fs (p:Int)).1.fs∧PI N n (Np s fs (p:Int)).1.s (Np s fs (p:Int)).1.fs C∧Hk s (Np s fs (p:Int)).1.s fs (Np s fs (p:Int)).1.fs:=by
 have d:=fD b h.pq c;obtain⟨f,a,g⟩:=iE b h c;obtain⟨i,j,_⟩:=b.held (p:Int);unfold Np;exact⟨d,by simp only;rw[if_pos d,g],i,f,⟨a.tx,a.nx,a.en,a.zf,j⟩⟩
theorem mV (f:Wf N n 0 s fs)(h:PI N n s fs C){t:Int}(hex:∃ a∈s.txns,a.txn=t){pg:Nat}(A:pg<n)(o:Rc.Op)(D:ByteArray→ByteArray×Int)(B:∀ q,(D q).2=0→Bi (D q).1=true){b:ByteArray}(E:D (C pg)=(b,0))
 (U:∀ l v,Rc.num l→Rc.num v→Rc.Bx (⟨l,v,t,2,(pg:Int),0,0,o,1,0,Rc.Cg,[],[]⟩:Rc.Rec)) (F:s.log.end_+2524≤(N:Int)*128):
 (Cj s fs ⟨0,0,t,2,(pg:Int),0,0,o,1,0,Rc.Cg,[],[]⟩ D).e=0∧∃ l,Wf N n 0 (Cj s fs ⟨0,0,t,2,(pg:Int),0,0,o,1,0,Rc.Cg,[],[]⟩ D).s (Cj s fs ⟨0,0,t,2,(pg:Int),0,0,o,1,0,Rc.Cg,[],[]⟩ D).fs∧
   PI N n (Cj s fs ⟨0,0,t,2,(pg:Int),0,0,o,1,0,Rc.Cg,[],[]⟩ D).s (Cj s fs ⟨0,0,t,2,(pg:Int),0,0,o,1,0,Rc.Cg,[],[]⟩ D).fs (fun x=>if x=pg then Bk b l else C x)∧wY s (Cj s fs ⟨0,0,t,2,(pg:Int),0,0,o,1,0,Rc.Cg,[],[]⟩ D).s fs (Cj s fs ⟨0,0,t,2,(pg:Int),0,0,o,1,0,Rc.Cg,[],[]⟩ D).fs t l:=by
 obtain⟨u,G⟩:=f.change ⟨0,0,t,2,(pg:Int),0,0,o,1,0,Rc.Cg,[],[]⟩ D B;have H:=h.pq.change f ⟨0,0,t,2,(pg:Int),0,0,o,1,0,Rc.Cg,[],[]⟩ D B;have key:(Cj s fs ⟨0,0,t,2,(pg:Int),0,0,o,1,0,Rc.Cg,[],[]⟩ D).e=0∧(Cj s fs ⟨0,0,t,2,(pg:Int),0,0,o,1,0,Rc.Cg,[],[]⟩ D).s.next=s.next∧(Cj s fs ⟨0,0,t,2,(pg:Int),0,0,o,1,0,Rc.Cg,[],[]⟩ D).s.zframes=s.zframes∧
  s.log.end_≤(Cj s fs ⟨0,0,t,2,(pg:Int),0,0,o,1,0,Rc.Cg,[],[]⟩ D).s.log.end_∧(Cj s fs ⟨0,0,t,2,(pg:Int),0,0,o,1,0,Rc.Cg,[],[]⟩ D).s.log.end_≤s.log.end_+2524:=by
  clear u G H;have hz:=h.zp;have V:Ok s (pg:Int):=⟨by omega,by omega⟩;have I:=h.n1;have J:=fD f h.pq A;obtain⟨j,k,K⟩:=iE f h A;have W:=(f.held (pg:Int)).1;have X:=(f.held (pg:Int)).2;unfold Cj;rw[if_neg (fun c=>c ⟨.inl rfl,V⟩)];simp only
  cases L:s.txns.findIdx? (fun a=>decide (a.txn=t))with
  |none=>
   obtain⟨a,Y,e⟩:=hex;have:=List.findIdx?_eq_none_iff.1 L a Y;simp only[decide_eq_false_iff_not]at this;exact absurd e this
  |some i=>
   obtain⟨m,_,_⟩:=List.findIdx?_eq_some_iff_getElem.1 L;simp only;rw[if_neg (fun c=>c J),K,E,if_neg (fun c=>c rfl)];generalize Bg s fs (pg:Int)=x at J j k K W X ⊢;have hk:x.2<x.1.fs.length:=(by omega);have d:=k.en;have Z:∃ g2 v,Fm x.1.s (Dt x.1.fs x.2) (pg:Int)=(g2,v,0)∧PI N n {x.1.s with log:=g2} x.1.fs C∧s.log.end_≤g2.end_∧g2.end_≤s.log.end_+1262:=by
    unfold Fm
    split
    ·have p:=j.num
     have w:0≤(pg:Int)∧(pg:Int)<60:=(by omega);have y:x.1.s.log.end_+1262≤(N:Int)*128:=(by rw[d];omega);rw[Cx hk];obtain⟨g2,e,r,M,O⟩:=j.log (Pc (pg:Int) x.1.fs[x.2].bytes) (V1 p.1 w (j.fr.sz x.2 hk)) (by show ¬ (8:Int)=9;decide) y;rw[d]at M O;exact⟨g2,_,e,r,by omega,by omega⟩
    ·exact⟨_,_,rfl,j,by rw[d];exact Int.le_refl _,by rw[d];omega⟩
   obtain⟨g2,v,em,r,M,O⟩:=Z;unfold T7;simp only;rw[em];simp only;rw[if_neg (fun c=>c trivial)];have g:Rc.num (Fo x.1.s.txns i).last:=by
    rw[k.tx,J5 m];exact(f.tx _ (List.getElem_mem m)).2.1
   obtain⟨g3,P,q1,q2,q3⟩:=r.log ⟨0,(Fo x.1.s.txns i).last,t,2,(pg:Int),0,0,o,1,0,Rc.Cg,[],[]⟩ (U _ _ r.num.1 g) (by show ¬ (2:Int)=9;decide) (by show g2.end_+1262≤_;omega);simp only at P;rw[P];simp only;rw[if_neg (fun c=>c trivial)];simp only at q2 q3;exact⟨rfl,k.nx,k.zf,by show s.log.end_≤g3.end_;omega,by show g3.end_≤_;omega⟩
 obtain⟨Q,k2,k3,k4,k5⟩:=key;rcases H with⟨_,p',i,l,R,c2,c3,c4,c5,c6,S,T⟩|⟨R,_⟩
 ·have z:pg=p':=Int.ofNat.inj c2
  subst z;rw[E]at T;exact⟨Q,l,u,T.pi u,⟨⟨i,c3,by rw[J5 c3]at c4;exact c4,by rw[J5 c3]at S;exact S⟩,c5,k2,k3,G,k4,k5⟩⟩
 ·exact absurd Q R
end
def F0 (fs:List Fr):Prop:=(∀ j,(Dt fs j).Ae=0)∧2≤fs.length
theorem fE {fs:List Fr}(h:F0 fs)(k:Nat)(f:Fr)(a:f.Ae=0):F0 (fs.set k f):=by
 refine⟨fun j=>?_,by rw[List.length_set];exact h.2⟩;unfold Dt
 by_cases e:k=j
 ·subst e
  by_cases hk:k<fs.length
  ·rw[List.getElem?_set_self hk];exact a
  ·rw[List.getElem?_eq_none (by rw[List.length_set];omega)];rfl
 ·rw[List.getElem?_set_ne e];exact h.1 j
theorem R4 {N n B:Nat}{s:Tx.St}{fs:List Fr}(h:F0 fs)(d:Wf N n B s fs):Im fs≠none:=by
 intro e;unfold Im at e;have a:=List.findIdx?_eq_none_iff.1 e;have f:=h.2;have f0:=a fs[0] (List.getElem_mem (by omega));have f1:=a fs[1] (List.getElem_mem (by omega));simp only[decide_eq_false_iff_not,Decidable.not_not]at f0 f1;have b:=h.1 0;have c:=h.1 1;rw[Cx (by omega)]at b c;exact d.ds 0 1 (by omega) (by omega) (by decide) f0 f1 (b.trans c.symm)
theorem iF {s:Tx.St}{fs:List Fr}(h:F0 fs)(a:Im fs≠none){p:Int}(b:p=0):F0 (Bg s fs p).1.fs:=by
 subst b;obtain⟨k,hk⟩:=Option.ne_none_iff_exists'.1 a;have e:Bp s fs=(⟨s,fs,0⟩,k):=by unfold Bp;rw[hk]
 unfold Bg;rw[e]
 split
 ·exact h
 ·split
  ·exact fE h _ _ (h.1 _)
  ·split
   ·exact h
   ·rw[if_pos rfl];exact fE h _ _ rfl
theorem mW {s:Tx.St}{fs:List Fr}(h:F0 fs)(b:Im fs≠none)(r:Rc.Rec)(c:r.Ae=0)(D:ByteArray→ByteArray×Int):F0 (Cj s fs r D).fs:=by
 have a:=iF (s:=s) h b c;unfold Cj
 split
 ·exact h
 ·split
  ·exact h
  ·split
   ·exact a
   ·split
    ·exact h
    ·unfold T7
     simp only
     split
     ·exact h
     ·split
      ·exact h
      ·exact fE a _ _ (a.1 _)
structure SW (N n k:Nat) (ids:List Int) (c:Int) (s:Tx.St) (fs:List Fr) (C:Nat→ByteArray):Prop where
 ss:SS N n k ids c s fs C
 wf:Wf N n 0 s fs
 fo:F0 fs
def vH (o:Rc.Op)(b:ByteArray):ByteArray×Int:=Qa b ⟨o.kind,o.slot,o.By,o.new⟩
theorem rC (o:Rc.Op)(b:ByteArray)(h:(vH o b).2=0):Bi (vH o b).1=true:=by
 unfold vH Qa at h ⊢
 split
 ·rename_i a
  have c:=(sT a).2.1;unfold Dg at c;rw[Bool.and_eq_true]at c;exact c.1
 ·rename_i a
  rw[if_neg a]at h;exact absurd h (by decide)
def yK (N n k:Nat)(ids:List Int)(c:Int)(C:Nat→ByteArray)(pg:Nat)(w:World)(e:Ending)(w':World):Prop:=
 ∃ (s':Tx.St) (q:SP) (fs':List Fr),e= .returned (.tuple #[Ah s' q,.string (C pg),()])∧Am w' s' q fs'∧SW N n k ids c s' fs' C∧Bw w w'
theorem uA {N n k:Nat}{ids:List Int}{c:Int}(s:Tx.St)(p:SP)(fs:List Fr)(C:Nat→ByteArray)(a:SW N n k ids c s fs C)(pg:Nat)(b:pg=0)(d:pg<n)(w:World)(h:Am w s p fs):
 Cq 57 #[Ah s p,.int .i64 (pg:Int)] w (yK N n k ids c C pg w):=by
 obtain⟨g1,g2,g3,g4,g5⟩:=wL a.wf a.ss.pi d;refine(Wd s p fs a.wf a.wf.n1.2.2 (R4 a.fo a.wf) (pg:Int) w h).mono ?_;rintro e w' ⟨q,rfl,f,g⟩;exact⟨_,q,_,by rw[g1,g2],f,⟨a.ss.hk g5 g4,g3,iF a.fo (R4 a.fo a.wf) (by rw[b];rfl)⟩,g⟩
def iG (N n k:Nat)(ids:List Int)(c:Int)(C:Nat→ByteArray)(pg:Nat)(b:ByteArray)(w:World)(e:Ending)(w':World):Prop:=
 ∃ (s':Tx.St) (q:SP) (fs':List Fr) (l:Int),e= .returned (.tuple #[Ah s' q,()])∧Am w' s' q fs'∧SW N n k ids c s' fs' (fun x=>if x=pg then Bk b l else C x)∧Rc.num l∧Bw w w'
theorem fF {N n k:Nat}{ids:List Int}{c:Int}(s:Tx.St)(p:SP)(fs:List Fr)(C:Nat→ByteArray)(a:SW N n k ids c s fs C)(z:c+2524≤(N:Int)*128)(t:Int)(j:t∈ids)(pg:Nat)(d:pg=0)(f:pg<n)(o:Rc.Op)(b:ByteArray)(m:vH o (C pg)=(b,0))
 (r:∀ l v,Rc.num l→Rc.num v→Rc.Bx (⟨l,v,t,2,(pg:Int),0,0,o,1,0,Rc.Cg,[],[]⟩:Rc.Rec)) (g:∀ (b:ByteArray) W,b.size≤512→Cr 137 #[b,.agg #[o.kind,o.slot,o.By,o.new]] W (Ko (vH o b))) (w:World) (h:Am w s p fs):
 Cq 96 #[Ah s p,.agg #[(),(),t,.int .i64 2,.int .i64 (pg:Int),(),(),o.kind,o.slot,o.By,o.new,.int .i64 1,(),"",(),(),'s','s']] w (iG N n k ids (c+2524) C pg b w):=by
 have A:=a.ss.used;obtain⟨g1,l,g2,g3,g4⟩:=mV a.wf a.ss.pi (a.ss.tx.ex j) f o (vH o) (rC o) m r (by omega);refine(Yc s p fs a.wf a.wf.n1.2.2 (R4 a.fo a.wf) 2 (.inl rfl) t (pg:Int) 0 o 1 0 Rc.Cg (vH o) (rC o) w (fun b u i _=>g b u i) h).mono ?_;rintro e w' ⟨q,rfl,x,y⟩;exact⟨_,q,_,l,by rw[g1],x,⟨a.ss.ch g4 g3,g2,mW a.fo (R4 a.fo a.wf) _ (by show(pg:Int)=0;rw[d];rfl) _⟩,g4.lr,y⟩
end Go.Proofs.YtpogpkonojhakaaGreatDoor
