import Derived.Test.YtmfkhdhnbkambaaGreatDoorHw00
import Derived.Test.YtmfkhdhnbkambaaGreatDoorHw08
import Derived.Test.YtmfkhdhnbkambaaGreatDoorHw22
import Derived.Test.YtmfkhdhnbkambaaGreatDoorHw11
import Derived.Test.YtmfkhdhnbkambaaGreatDoorHw15
import Derived.Test.YtmfkhdhnbkambaaGreatDoorHw20
set_option maxRecDepth 100000
set_option maxHeartbeats 16000000
set_option linter.unusedSimpArgs false
namespace Go.Proofs.YtmfkhdhnbkambaaGreatDoor
open Go.RowKit Sc
section
variable {N n : Nat} {s : Tx.St} {fs : List Fr} {C : Nat → ByteArray}
theorem PI.pq (h:PI N n s fs C):PQ N n s fs C:=⟨h.zl,h.zp,h.pw,⟨h.fr.at_,h.fr.ds⟩,h.nm,h.dk⟩
theorem Wf.np (h:Wf N n 0 s fs):NP fs:=fun x a=>by
 obtain⟨i,b,rfl⟩:=List.getElem_of_mem a;have:=(h.fr i b).pn;omega
theorem PQ.pi (h:PQ N n s fs C)(a:Wf N n 0 s fs):PI N n s fs C:=
 ⟨h.zl,h.zp,a.n1,h.pw,a.nf,a.hd,⟨h.fr.at_,h.fr.ds,fun i b=>by have:=(a.fr i b).pn;omega,fun i b=>(a.fr i b).rc,fun i b=>(a.fr i b).sz⟩,h.nm,h.dk⟩
theorem eL (b:Wf N n 0 s fs)(h:PQ N n s fs C){p:Nat}(c:p<n):(Bj s fs (p:Int)).1.e=0:=by
 have g:=h.zp;have d:Oj s (p:Int):=⟨by omega,by omega⟩;unfold Bj;rw[if_neg (fun a=>a d)]
 cases f:Xy fs (p:Int)with
 |some k=>rfl
 |none=>
  simp only;rw[h.read c (Tj (dS f)),if_neg (fun a=>a rfl),if_pos (tC b h.pw b.np).1]
theorem gQ (a:Wf N n 0 s fs)(h:PI N n s fs C){p:Nat}(b:p<n):PI N n (Bj s fs (p:Int)).1.s (Bj s fs (p:Int)).1.fs C∧Kp s (Bj s fs (p:Int)).1.s∧(Dx (Bj s fs (p:Int)).1.fs (Bj s fs (p:Int)).2).bytes=C p:=by
 have c:=eL a h.pq b;rcases h.pq.held a b with⟨_,d,e,f⟩|h1
 ·exact⟨d.pi (a.held (p:Int)).1,e,f⟩
 ·rw[h1]at c;exact absurd c (by show ¬ (18:Int)=0;decide)
theorem vY (b:Wf N n 0 s fs)(h:PI N n s fs C){p:Nat}(c:p<n):(Ns s fs (p:Int)).1.e=0∧(Ns s fs (p:Int)).2=C p∧Wf N n 0 (Ns s fs (p:Int)).1.s (Ns s fs (p:Int)).1.fs∧PI N n (Ns s fs (p:Int)).1.s (Ns s fs (p:Int)).1.fs C∧Hk s (Ns s fs (p:Int)).1.s fs (Ns s fs (p:Int)).1.fs:=by
 have d:=eL b h.pq c;obtain⟨f,a,g⟩:=gQ b h c;obtain⟨i,j,_⟩:=b.held (p:Int);unfold Ns;exact⟨d,by simp only;rw[if_pos d,g],i,f,⟨a.tx,a.nx,a.en,a.zf,j⟩⟩
theorem mD (f:Wf N n 0 s fs)(h:PI N n s fs C){t:Int}(hex:∃ a∈s.txns,a.txn=t){pg:Nat}(A:pg<n)(o:Rc.Op)(D:ByteArray→ByteArray×Int)(B:∀ q,(D q).2=0→Bk (D q).1=true){b:ByteArray}(E:D (C pg)=(b,0))
 (U:∀ l v,Rc.num l→Rc.num v→Rc.Bu (⟨l,v,t,2,(pg:Int),0,0,o,1,0,Rc.Ce,[],[]⟩:Rc.Rec)) (F:s.log.end_+1634≤(N:Int)*128):
 (Cg s fs ⟨0,0,t,2,(pg:Int),0,0,o,1,0,Rc.Ce,[],[]⟩ D).e=0∧∃ l,Wf N n 0 (Cg s fs ⟨0,0,t,2,(pg:Int),0,0,o,1,0,Rc.Ce,[],[]⟩ D).s (Cg s fs ⟨0,0,t,2,(pg:Int),0,0,o,1,0,Rc.Ce,[],[]⟩ D).fs∧
   PI N n (Cg s fs ⟨0,0,t,2,(pg:Int),0,0,o,1,0,Rc.Ce,[],[]⟩ D).s (Cg s fs ⟨0,0,t,2,(pg:Int),0,0,o,1,0,Rc.Ce,[],[]⟩ D).fs (fun x=>if x=pg then Bl b l else C x)∧wC s (Cg s fs ⟨0,0,t,2,(pg:Int),0,0,o,1,0,Rc.Ce,[],[]⟩ D).s fs (Cg s fs ⟨0,0,t,2,(pg:Int),0,0,o,1,0,Rc.Ce,[],[]⟩ D).fs t l:=by
 obtain⟨u,G⟩:=f.change ⟨0,0,t,2,(pg:Int),0,0,o,1,0,Rc.Ce,[],[]⟩ D B;have H:=h.pq.change f ⟨0,0,t,2,(pg:Int),0,0,o,1,0,Rc.Ce,[],[]⟩ D B;have key:(Cg s fs ⟨0,0,t,2,(pg:Int),0,0,o,1,0,Rc.Ce,[],[]⟩ D).e=0∧(Cg s fs ⟨0,0,t,2,(pg:Int),0,0,o,1,0,Rc.Ce,[],[]⟩ D).s.next=s.next∧(Cg s fs ⟨0,0,t,2,(pg:Int),0,0,o,1,0,Rc.Ce,[],[]⟩ D).s.zframes=s.zframes∧
  s.log.end_≤(Cg s fs ⟨0,0,t,2,(pg:Int),0,0,o,1,0,Rc.Ce,[],[]⟩ D).s.log.end_∧(Cg s fs ⟨0,0,t,2,(pg:Int),0,0,o,1,0,Rc.Ce,[],[]⟩ D).s.log.end_≤s.log.end_+1634:=by
  clear u G H;have hz:=h.zp;have V:Oj s (pg:Int):=⟨by omega,by omega⟩;have I:=h.n1;have J:=eL f h.pq A;obtain⟨j,k,K⟩:=gQ f h A;have W:=(f.held (pg:Int)).1;have X:=(f.held (pg:Int)).2;unfold Cg;rw[if_neg (fun c=>c ⟨.inl rfl,V⟩)];simp only
  cases L:s.txns.findIdx? (fun a=>decide (a.txn=t))with
  |none=>
   obtain⟨a,Y,e⟩:=hex;have:=List.findIdx?_eq_none_iff.1 L a Y;simp only[decide_eq_false_iff_not]at this;exact absurd e this
  |some i=>
   obtain⟨m,_,_⟩:=List.findIdx?_eq_some_iff_getElem.1 L;simp only;rw[if_neg (fun c=>c J),K,E,if_neg (fun c=>c rfl)];generalize Bj s fs (pg:Int)=x at J j k K W X ⊢;have hk:x.2<x.1.fs.length:=(by omega);have d:=k.en;have Z:∃ g2 v,Fl x.1.s (Dx x.1.fs x.2) (pg:Int)=(g2,v,0)∧PI N n {x.1.s with log:=g2} x.1.fs C∧s.log.end_≤g2.end_∧g2.end_≤s.log.end_+562:=by
    unfold Fl
    split
    ·have p:=j.num
     have w:0≤(pg:Int)∧(pg:Int)<60:=(by omega);have y:x.1.s.log.end_+562≤(N:Int)*128:=(by rw[d];omega);rw[Cu hk];obtain⟨g2,e,r,M,O⟩:=j.xG (Pc (pg:Int) x.1.fs[x.2].bytes) (Vh p.1 w (j.fr.sz x.2 hk)) rfl (by show(⟨#[]⟩:ByteArray).size=0;rfl) y;rw[d]at M O;exact⟨g2,_,e,r,by omega,by omega⟩
    ·exact⟨_,_,rfl,j,by rw[d];exact Int.le_refl _,by rw[d];omega⟩
   obtain⟨g2,v,em,r,M,O⟩:=Z;unfold Tn;simp only;rw[em];simp only;rw[if_neg (fun c=>c trivial)];have g:Rc.num (Fm x.1.s.txns i).last:=by
    rw[k.tx,J4 m];exact(f.tx _ (List.getElem_mem m)).2.1
   obtain⟨g3,P,q1,q2,q3⟩:=r.log ⟨0,(Fm x.1.s.txns i).last,t,2,(pg:Int),0,0,o,1,0,Rc.Ce,[],[]⟩ (U _ _ r.num.1 g) (by show ¬ (2:Int)=9;decide) (by show g2.end_+1072≤_;omega);simp only at P;rw[P];simp only;rw[if_neg (fun c=>c trivial)];simp only at q2 q3;exact⟨rfl,k.nx,k.zf,by show s.log.end_≤g3.end_;omega,by show g3.end_≤_;omega⟩
 obtain⟨Q,k2,k3,k4,k5⟩:=key;rcases H with⟨_,p',i,l,R,c2,c3,c4,c5,c6,S,T⟩|⟨R,_⟩
 ·have z:pg=p':=Int.ofNat.inj c2
  subst z;rw[E]at T;exact⟨Q,l,u,T.pi u,⟨⟨i,c3,by rw[J4 c3]at c4;exact c4,by rw[J4 c3]at S;exact S⟩,c5,k2,k3,G,k4,k5⟩⟩
 ·exact absurd Q R
end
def F0 (fs:List Fr):Prop:=(∀ j,(Dx fs j).Ad=0)∧2≤fs.length
theorem eM {fs:List Fr}(h:F0 fs)(k:Nat)(f:Fr)(a:f.Ad=0):F0 (fs.set k f):=by
 refine⟨fun j=>?_,by rw[List.length_set];exact h.2⟩;unfold Dx
 by_cases e:k=j
 ·subst e
  by_cases hk:k<fs.length
  ·rw[List.getElem?_set_self hk];exact a
  ·rw[List.getElem?_eq_none (by rw[List.length_set];omega)];rfl
 ·rw[List.getElem?_set_ne e];exact h.1 j
theorem Rl {N n B:Nat}{s:Tx.St}{fs:List Fr}(h:F0 fs)(d:Wf N n B s fs):Ik fs≠none:=by
 intro e;unfold Ik at e;have a:=List.findIdx?_eq_none_iff.1 e;have f:=h.2;have f0:=a fs[0] (List.getElem_mem (by omega));have f1:=a fs[1] (List.getElem_mem (by omega));simp only[decide_eq_false_iff_not,Decidable.not_not]at f0 f1;have b:=h.1 0;have c:=h.1 1;rw[Cu (by omega)]at b c;exact d.ds 0 1 (by omega) (by omega) (by decide) f0 f1 (b.trans c.symm)
theorem gR {s:Tx.St}{fs:List Fr}(h:F0 fs)(a:Ik fs≠none){p:Int}(b:p=0):F0 (Bj s fs p).1.fs:=by
 subst b;obtain⟨k,hk⟩:=Option.ne_none_iff_exists'.1 a;have e:Bq s fs=(⟨s,fs,0⟩,k):=by unfold Bq;rw[hk]
 unfold Bj;rw[e]
 split
 ·exact h
 ·split
  ·exact eM h _ _ (h.1 _)
  ·split
   ·exact h
   ·rw[if_pos rfl];exact eM h _ _ rfl
theorem mE {s:Tx.St}{fs:List Fr}(h:F0 fs)(b:Ik fs≠none)(r:Rc.Rec)(c:r.Ad=0)(D:ByteArray→ByteArray×Int):F0 (Cg s fs r D).fs:=by
 have a:=gR (s:=s) h b c;unfold Cg
 split
 ·exact h
 ·split
  ·exact h
  ·split
   ·exact a
   ·split
    ·exact h
    ·unfold Tn
     simp only
     split
     ·exact h
     ·split
      ·exact h
      ·exact eM a _ _ (a.1 _)
structure SW (N n k:Nat) (ids:List Int) (c:Int) (s:Tx.St) (fs:List Fr) (C:Nat→ByteArray):Prop where
 ss:SS N n k ids c s fs C
 wf:Wf N n 0 s fs
 fo:F0 fs
def uR (o:Rc.Op)(b:ByteArray):ByteArray×Int:=S1 b ⟨o.kind,o.slot,o.By,o.new⟩
theorem qQ (o:Rc.Op)(b:ByteArray)(h:(uR o b).2=0):Bk (uR o b).1=true:=by
 unfold uR S1 at h ⊢
 split
 ·rename_i a
  have c:=(sJ a).2.1;unfold Dm at c;rw[Bool.and_eq_true]at c;exact c.1
 ·rename_i a
  rw[if_neg a]at h;exact absurd h (by decide)
def xQ (N n k:Nat)(ids:List Int)(c:Int)(C:Nat→ByteArray)(pg:Nat)(w:World)(e:Ending)(w':World):Prop:=
 ∃ (s':Tx.St) (q:SP) (fs':List Fr),e= .returned (.tuple #[Ah s' q,.string (C pg),()])∧Am w' s' q fs'∧SW N n k ids c s' fs' C∧Bw w w'
theorem tR {N n k:Nat}{ids:List Int}{c:Int}(s:Tx.St)(p:SP)(fs:List Fr)(C:Nat→ByteArray)(a:SW N n k ids c s fs C)(pg:Nat)(b:pg=0)(d:pg<n)(w:World)(h:Am w s p fs):
 Cq 150 #[Ah s p,.int .i64 (pg:Int)] w (xQ N n k ids c C pg w):=by
 obtain⟨g1,g2,g3,g4,g5⟩:=vY a.wf a.ss.pi d;refine(Vv s p fs a.wf a.wf.n1.2.2 (Rl a.fo a.wf) (pg:Int) w h).mono ?_;rintro e w' ⟨q,rfl,f,g⟩;exact⟨_,q,_,by rw[g1,g2],f,⟨a.ss.hk g5 g4,g3,gR a.fo (Rl a.fo a.wf) (by rw[b];rfl)⟩,g⟩
def gS (N n k:Nat)(ids:List Int)(c:Int)(C:Nat→ByteArray)(pg:Nat)(b:ByteArray)(w:World)(e:Ending)(w':World):Prop:=
 ∃ (s':Tx.St) (q:SP) (fs':List Fr) (l:Int),e= .returned (.tuple #[Ah s' q,()])∧Am w' s' q fs'∧SW N n k ids c s' fs' (fun x=>if x=pg then Bl b l else C x)∧Rc.num l∧Bw w w'
theorem eN {N n k:Nat}{ids:List Int}{c:Int}(s:Tx.St)(p:SP)(fs:List Fr)(C:Nat→ByteArray)(a:SW N n k ids c s fs C)(z:c+1634≤(N:Int)*128)(t:Int)(j:t∈ids)(pg:Nat)(d:pg=0)(f:pg<n)(o:Rc.Op)(b:ByteArray)(m:uR o (C pg)=(b,0))
 (r:∀ l v,Rc.num l→Rc.num v→Rc.Bu (⟨l,v,t,2,(pg:Int),0,0,o,1,0,Rc.Ce,[],[]⟩:Rc.Rec)) (g:∀ (b:ByteArray) W,b.size≤512→Cr 11 #[b,.agg #[o.kind,o.slot,o.By,o.new]] W (Kn (uR o b))) (w:World) (h:Am w s p fs):
 Cq 193 #[Ah s p,.agg #[(),(),t,.int .i64 2,.int .i64 (pg:Int),(),(),o.kind,o.slot,o.By,o.new,.int .i64 1,(),"",(),(),"s","s"]] w (gS N n k ids (c+1634) C pg b w):=by
 have A:=a.ss.used;obtain⟨g1,l,g2,g3,g4⟩:=mD a.wf a.ss.pi (a.ss.tx.ex j) f o (uR o) (qQ o) m r (by omega);refine(Xp s p fs a.wf a.wf.n1.2.2 (Rl a.fo a.wf) 2 (.inl rfl) t (pg:Int) 0 o 1 0 Rc.Ce (uR o) (qQ o) w (fun b u i _=>g b u i) h).mono ?_;rintro e w' ⟨q,rfl,x,y⟩;exact⟨_,q,_,l,by rw[g1],x,⟨a.ss.ch g4 g3,g2,mE a.fo (Rl a.fo a.wf) _ (by show(pg:Int)=0;rw[d];rfl) _⟩,g4.lr,y⟩
end Go.Proofs.YtmfkhdhnbkambaaGreatDoor
