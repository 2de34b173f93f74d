import Derived.Test.YtmfkhdhnbkambaaGreatDoorHw00
import Derived.Test.YtmfkhdhnbkambaaGreatDoorHw15
import Derived.Test.YtmfkhdhnbkambaaGreatDoorHw07
import Derived.Test.YtmfkhdhnbkambaaGreatDoorHw04
set_option maxRecDepth 100000
set_option maxHeartbeats 16000000
set_option linter.unusedSimpArgs false
namespace Go.Proofs.YtmfkhdhnbkambaaGreatDoor
open Go.RowKit
theorem vT {p b r:ByteArray}(d:Lu p)(e:(Ab p).Ai=[b])(f:b.size≠0)(h:r.size≠0)(i:r.size≤400):
 S1 p ⟨3,0,b,r⟩=(Dl {Ab p with Ai:=[r]},0)∧Lu (Dl {Ab p with Ai:=[r]})∧Ab (Dl {Ab p with Ai:=[r]})={Ab p with Ai:=[r]}:=by
 obtain⟨j,k⟩:=sR d e f h i;refine⟨?_,k⟩;have a:Pg.Ba (Ab p).Ai 0=b:=by rw[e];rfl
 have l:Eu p ⟨3,0,b,r⟩=true:=by
  unfold Eu;simp only;rw[a,decide_eq_false f,decide_eq_true rfl];rfl
 have g:Cb p ⟨3,0,b,r⟩=(Dl {Ab p with Ai:=[r]},true):=by
  unfold Cb;rw[if_neg (show ¬ (3:Int)=1 by decide),if_neg (show ¬ (3:Int)=2 by decide),if_pos rfl,l,if_pos rfl];simp only;rw[j];rfl
 have c:Dm p ⟨3,0,b,r⟩=true:=by unfold Dm;rw[g,d.is];rfl
 rw[Tw c,g]
theorem qE {p q:ByteArray}(c:Lu p)(a:Lu q)(f:(Ab q).lsn=0):
 S1 p ⟨7,0,Bl p 0,q⟩=(Bl q ((Ab p).lsn:Nat),0)∧Lu (Bl q ((Ab p).lsn:Nat))∧Ab (Bl q ((Ab p).lsn:Nat))=⟨(Ab p).lsn,(Ab q).kind,(Ab q).link,(Ab q).Ai⟩:=by
 have d:=kN c.is a.is;refine⟨?_,d⟩;have g:Bl q 0=q:=by have:=a.pl;unfold Ny at this;rw[f]at this;exact this
 have e:Cb p ⟨7,0,Bl p 0,q⟩=(Bl q ((Ab p).lsn:Nat),true):=by
  unfold Cb;rw[if_neg (show ¬ (7:Int)=1 by decide),if_neg (show ¬ (7:Int)=2 by decide),if_neg (show ¬ (7:Int)=3 by decide),if_neg (show ¬ (7:Int)=4 by decide),if_neg (show ¬ (7:Int)=5 by decide),if_neg (show ¬ (7:Int)=6 by decide),if_pos rfl];unfold Gk;rw[if_pos ⟨rfl,rfl,by simp only;rw[a.size];decide,g⟩];simp only;rw[decide_eq_false (by rw[d.1.size];decide)];rfl
 have b:Dm p ⟨7,0,Bl p 0,q⟩=true:=by unfold Dm;rw[e,c.is];rfl
 rw[Tw b,e]
theorem P6 {p:ByteArray}(b:Lu p){l:Int}(a:Rc.num l):Lu (Bl p l)∧Ab (Bl p l)=⟨l.toNat,(Ab p).kind,(Ab p).link,(Ab p).Ai⟩:=by
 have h:=Pb b.is (l:=l.toNat) (by have:=a.2;omega);rw[show((l.toNat:Nat):Int)=l from by have:=a.1;omega]at h;exact h
end Go.Proofs.YtmfkhdhnbkambaaGreatDoor
