import Derived.Test.YtmldoihahndcgaaGreatDoorHs00
import Derived.Test.YtmldoihahndcgaaGreatDoorHs07
import Derived.Test.YtmldoihahndcgaaGreatDoorHs20
import Derived.Test.YtmldoihahndcgaaGreatDoorHs18
import Derived.Test.YtmldoihahndcgaaGreatDoorHs15
import Derived.Test.YtmldoihahndcgaaGreatDoorHs14
set_option maxRecDepth 100000
set_option maxHeartbeats 16000000
set_option linter.unusedSimpArgs false
namespace Go.Proofs.YtmldoihahndcgaaGreatDoor
open Go.RowKit Sc
section
variable {N n : Nat} {s : Tx.St} {fs : List Fr} {C : Nat → ByteArray}
theorem PI.pq (h:PI N n s fs C):PQ N n s fs C:=⟨h.zl,h.zp,h.pw,⟨h.fr.at_,h.fr.ds⟩,h.nm,h.dk⟩
theorem Wf.np (h:Wf N n 0 s fs):NP fs:=fun x a=>by
 obtain⟨i,b,rfl⟩:=List.getElem_of_mem a;have:=(h.fr i b).pn;omega
theorem PQ.pi (h:PQ N n s fs C)(a:Wf N n 0 s fs):PI N n s fs C:=
 ⟨h.zl,h.zp,a.n1,h.pw,a.nf,a.hd,⟨h.fr.at_,h.fr.ds,fun i b=>by have:=(a.fr i b).pn;omega,fun i b=>(a.fr i b).rc,fun i b=>(a.fr i b).sz⟩,h.nm,h.dk⟩
theorem dM (b:Wf N n 0 s fs)(h:PQ N n s fs C){p:Nat}(c:p<n):(Bf s fs (p:Int)).1.e=0:=by
 have g:=h.zp;have d:Nd s (p:Int):=⟨by omega,by omega⟩;unfold Bf;rw[if_neg (fun a=>a d)]
 cases f:Ww fs (p:Int)with
 |some k=>rfl
 |none=>
  simp only;rw[h.read c (Sj (cO f)),if_neg (fun a=>a rfl),if_pos (qC b h.pw b.np).1]
theorem fM (a:Wf N n 0 s fs)(h:PI N n s fs C){p:Nat}(b:p<n):PI N n (Bf s fs (p:Int)).1.s (Bf s fs (p:Int)).1.fs C∧Kp s (Bf s fs (p:Int)).1.s∧(Dc (Bf s fs (p:Int)).1.fs (Bf s fs (p:Int)).2).bytes=C p:=by
 have c:=dM a h.pq b;rcases h.pq.held a b with⟨_,d,e,f⟩|h1
 ·exact⟨d.pi (a.held (p:Int)).1,e,f⟩
 ·rw[h1]at c;exact absurd c (by show ¬ (18:Int)=0;decide)
theorem sD (b:Wf N n 0 s fs)(h:PI N n s fs C){p:Nat}(c:p<n):(Mq s fs (p:Int)).1.e=0∧(Mq s fs (p:Int)).2=C p∧Wf N n 0 (Mq s fs (p:Int)).1.s (Mq s fs (p:Int)).1.fs∧PI N n (Mq s fs (p:Int)).1.s (Mq s fs (p:Int)).1.fs C∧Hk s (Mq s fs (p:Int)).1.s fs (Mq s fs (p:Int)).1.fs:=by
 have d:=dM b h.pq c;obtain⟨f,a,g⟩:=fM b h c;obtain⟨i,j,_⟩:=b.held (p:Int);unfold Mq;exact⟨d,by simp only;rw[if_pos d,g],i,f,⟨a.tx,a.nx,a.en,a.zf,j⟩⟩
theorem kF (f:Wf N n 0 s fs)(h:PI N n s fs C){t:Int}(hex:∃ a∈s.txns,a.txn=t){pg:Nat}(A:pg<n)(o:Rc.Op)(D:ByteArray→ByteArray×Int)(B:∀ q,(D q).2=0→Bk (D q).1=true){b:ByteArray}(E:D (C pg)=(b,0))
 (T:∀ l v,Rc.num l→Rc.num v→Rc.Bs (⟨l,v,t,2,(pg:Int),0,0,o,1,0,Rc.Cm,[],[]⟩:Rc.Rec)) (F:s.log.end_+2524≤(N:Int)*128):
 (Cn s fs ⟨0,0,t,2,(pg:Int),0,0,o,1,0,Rc.Cm,[],[]⟩ D).e=0∧∃ l,Wf N n 0 (Cn s fs ⟨0,0,t,2,(pg:Int),0,0,o,1,0,Rc.Cm,[],[]⟩ D).s (Cn s fs ⟨0,0,t,2,(pg:Int),0,0,o,1,0,Rc.Cm,[],[]⟩ D).fs∧
   PI N n (Cn s fs ⟨0,0,t,2,(pg:Int),0,0,o,1,0,Rc.Cm,[],[]⟩ D).s (Cn s fs ⟨0,0,t,2,(pg:Int),0,0,o,1,0,Rc.Cm,[],[]⟩ D).fs (fun x=>if x=pg then Bg b l else C x)∧sF s (Cn s fs ⟨0,0,t,2,(pg:Int),0,0,o,1,0,Rc.Cm,[],[]⟩ D).s fs (Cn s fs ⟨0,0,t,2,(pg:Int),0,0,o,1,0,Rc.Cm,[],[]⟩ D).fs t l:=by
 obtain⟨u,G⟩:=f.change ⟨0,0,t,2,(pg:Int),0,0,o,1,0,Rc.Cm,[],[]⟩ D B;have H:=h.pq.change f ⟨0,0,t,2,(pg:Int),0,0,o,1,0,Rc.Cm,[],[]⟩ D B;have key:(Cn s fs ⟨0,0,t,2,(pg:Int),0,0,o,1,0,Rc.Cm,[],[]⟩ D).e=0∧(Cn s fs ⟨0,0,t,2,(pg:Int),0,0,o,1,0,Rc.Cm,[],[]⟩ D).s.next=s.next∧(Cn s fs ⟨0,0,t,2,(pg:Int),0,0,o,1,0,Rc.Cm,[],[]⟩ D).s.zframes=s.zframes∧
  s.log.end_≤(Cn s fs ⟨0,0,t,2,(pg:Int),0,0,o,1,0,Rc.Cm,[],[]⟩ D).s.log.end_∧(Cn s fs ⟨0,0,t,2,(pg:Int),0,0,o,1,0,Rc.Cm,[],[]⟩ D).s.log.end_≤s.log.end_+2524:=by
  clear u G H;have hz:=h.zp;have U:Nd s (pg:Int):=⟨by omega,by omega⟩;have I:=h.n1;have J:=dM f h.pq A;obtain⟨j,k,K⟩:=fM f h A;have V:=(f.held (pg:Int)).1;have W:=(f.held (pg:Int)).2;unfold Cn;rw[if_neg (fun c=>c ⟨.inl rfl,U⟩)];simp only
  cases L:s.txns.findIdx? (fun a=>decide (a.txn=t))with
  |none=>
   obtain⟨a,X,e⟩:=hex;have:=List.findIdx?_eq_none_iff.1 L a X;simp only[decide_eq_false_iff_not]at this;exact absurd e this
  |some i=>
   obtain⟨m,_,_⟩:=List.findIdx?_eq_some_iff_getElem.1 L;simp only;rw[if_neg (fun c=>c J),K,E,if_neg (fun c=>c rfl)];generalize Bf s fs (pg:Int)=x at J j k K V W ⊢;have hk:x.2<x.1.fs.length:=(by omega);have d:=k.en;have Y:∃ g2 v,Fp x.1.s (Dc x.1.fs x.2) (pg:Int)=(g2,v,0)∧PI N n {x.1.s with log:=g2} x.1.fs C∧s.log.end_≤g2.end_∧g2.end_≤s.log.end_+1262:=by
    unfold Fp
    split
    ·have p:=j.num
     have w:0≤(pg:Int)∧(pg:Int)<60:=(by omega);have y:x.1.s.log.end_+1262≤(N:Int)*128:=(by rw[d];omega);rw[Cg hk];obtain⟨g2,e,r,M,O⟩:=j.log (Od (pg:Int) x.1.fs[x.2].bytes) (Ui p.1 w (j.fr.sz x.2 hk)) (by show ¬ (8:Int)=9;decide) y;rw[d]at M O;exact⟨g2,_,e,r,by omega,by omega⟩
    ·exact⟨_,_,rfl,j,by rw[d];exact Int.le_refl _,by rw[d];omega⟩
   obtain⟨g2,v,em,r,M,O⟩:=Y;unfold Tq;simp only;rw[em];simp only;rw[if_neg (fun c=>c trivial)];have g:Rc.num (Fq x.1.s.txns i).last:=by
    rw[k.tx,Jk m];exact(f.tx _ (List.getElem_mem m)).2.1
   obtain⟨g3,P,q1,Z,q3⟩:=r.log ⟨0,(Fq x.1.s.txns i).last,t,2,(pg:Int),0,0,o,1,0,Rc.Cm,[],[]⟩ (T _ _ r.num.1 g) (by show ¬ (2:Int)=9;decide) (by show g2.end_+1262≤_;omega);simp only at P;rw[P];simp only;rw[if_neg (fun c=>c trivial)];simp only at Z q3;exact⟨rfl,k.nx,k.zf,by show s.log.end_≤g3.end_;omega,by show g3.end_≤_;omega⟩
 obtain⟨Q,k2,k3,k4,k5⟩:=key;rcases H with⟨_,p',i,l,c1,c2,c3,c4,c5,c6,R,S⟩|⟨c1,_⟩
 ·have z:pg=p':=Int.ofNat.inj c2
  subst z;rw[E]at S;exact⟨Q,l,u,S.pi u,⟨⟨i,c3,by rw[Jk c3]at c4;exact c4,by rw[Jk c3]at R;exact R⟩,c5,k2,k3,G,k4,k5⟩⟩
 ·exact absurd Q c1
end
structure SW (N n k:Nat) (ids:List Int) (c:Int) (s:Tx.St) (fs:List Fr) (C:Nat→ByteArray):Prop where
 ss:SS N n k ids c s fs C
 wf:Wf N n 0 s fs
theorem SW.more {N n k:Nat}{ids:List Int}{c a:Int}{s:Tx.St}{fs:List Fr}{C:Nat→ByteArray}(h:SW N n k ids c s fs C)(b:c≤a):SW N n k ids a s fs C:=⟨h.ss.more b,h.wf⟩
def tP (N n k:Nat)(ids:List Int)(c:Int)(C:Nat→ByteArray)(pg:Nat)(w:World)(e:Ending)(w':World):Prop:=
 ∃ (s':Tx.St) (q:SP) (fs':List Fr),e= .returned (.tuple #[Ag s' q,.string (C pg),()])∧Ao w' s' q fs'∧SW N n k ids c s' fs' C∧Bw w w'
theorem fN {N n k:Nat}{ids:List Int}{c:Int}(s:Tx.St)(p:SP)(fs:List Fr)(C:Nat→ByteArray)(a:SW N n k ids c s fs C)(pg:Nat)(b:pg<n)(w:World)(h:Ao w s p fs):
 Cq 96 #[Ag s p,.int .i64 (pg:Int)] w (tP N n k ids c C pg w):=by
 obtain⟨g1,g2,g3,g4,g5⟩:=sD a.wf a.ss.pi b;refine(Uw s p fs a.wf a.wf.n1.2.2 (pg:Int) w h).mono ?_;rintro e w' ⟨q,rfl,d,f⟩;exact⟨_,q,_,by rw[g1,g2],d,⟨a.ss.hk g5 g4,g3⟩,f⟩
def fO (N n k:Nat)(ids:List Int)(c:Int)(C:Nat→ByteArray)(pg:Nat)(b:ByteArray)(w:World)(e:Ending)(w':World):Prop:=
 ∃ (s':Tx.St) (q:SP) (fs':List Fr) (l:Int),e= .returned (.tuple #[Ag s' q,()])∧Ao w' s' q fs'∧SW N n k ids c s' fs' (fun x=>if x=pg then Bg b l else C x)∧Rc.num l∧Bw w w'
theorem dN {N n k:Nat}{ids:List Int}{c:Int}(s:Tx.St)(p:SP)(fs:List Fr)(C:Nat→ByteArray)(a:SW N n k ids c s fs C)(y:c+2524≤(N:Int)*128)(t:Int)(i:t∈ids)(pg:Nat)(d:pg<n)(o:Rc.Op)(b:ByteArray)(j:rF o (C pg)=(b,0))
 (m:∀ l v,Rc.num l→Rc.num v→Rc.Bs (⟨l,v,t,2,(pg:Int),0,0,o,1,0,Rc.Cm,[],[]⟩:Rc.Rec)) (f:∀ (b:ByteArray) W,b.size≤512→Cr 186 #[b,.agg #[o.kind,o.slot,o.Cs,o.new]] W (Mm (rF o b))) (w:World) (h:Ao w s p fs):
 Cq 116 #[Ag s p,.agg #[(),(),t,.int .i64 2,.int .i64 (pg:Int),(),(),o.kind,o.slot,o.Cs,o.new,.int .i64 1,(),"",(),(),'s','s']] w (fO N n k ids (c+2524) C pg b w):=by
 have z:=a.ss.used;obtain⟨g1,l,g2,g3,g4⟩:=kF a.wf a.ss.pi (a.ss.tx.ex i) d o (rF o) (oA o) j m (by omega);refine(Wq s p fs a.wf a.wf.n1.2.2 2 (.inl rfl) t (pg:Int) 0 o 1 0 Rc.Cm (rF o) (oA o) w (fun b r g _=>f b r g) h).mono ?_;rintro e w' ⟨q,rfl,u,x⟩;exact⟨_,q,_,l,by rw[g1],u,⟨a.ss.ch g4 g3,g2⟩,g4.lr,x⟩
end Go.Proofs.YtmldoihahndcgaaGreatDoor
