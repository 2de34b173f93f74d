import Derived.Test.YtpogpkonojhakaaGreatDoorHk00
import Derived.Test.YtpogpkonojhakaaGreatDoorHk04
import Derived.Test.YtpogpkonojhakaaGreatDoorHk15
import Derived.Test.YtpogpkonojhakaaGreatDoorHk49
set_option maxRecDepth 100000
set_option maxHeartbeats 16000000
set_option linter.unusedSimpArgs false
namespace Go.Proofs.YtpogpkonojhakaaGreatDoor
open Go.RowKit
theorem wI {p b r:ByteArray}(d:K8 p)(e:(Ab p).Ai=[b])(f:b.size≠0)(h:r.size≠0)(i:r.size≤400):
 Qa p ⟨3,0,b,r⟩=(Dl {Ab p with Ai:=[r]},0)∧K8 (Dl {Ab p with Ai:=[r]})∧Ab (Dl {Ab p with Ai:=[r]})={Ab p with Ai:=[r]}:=by
 obtain⟨j,k⟩:=tC d e f h i;refine⟨?_,k⟩;have a:Pg.Az (Ab p).Ai 0=b:=by rw[e];rfl
 have l:D6 p ⟨3,0,b,r⟩=true:=by
  unfold D6;simp only;rw[a,decide_eq_false f,decide_eq_true rfl];rfl
 have g:Ca p ⟨3,0,b,r⟩=(Dl {Ab p with Ai:=[r]},true):=by
  unfold Ca;rw[if_neg (show ¬ (3:Int)=1 by decide),if_neg (show ¬ (3:Int)=2 by decide),if_pos rfl,l,if_pos rfl];simp only;rw[j];rfl
 have c:Dg p ⟨3,0,b,r⟩=true:=by unfold Dg;rw[g,d.is];rfl
 rw[Ug c,g]
theorem qS {p q:ByteArray}(c:K8 p)(a:K8 q)(f:(Ab q).lsn=0):
 Qa p ⟨7,0,Bk p 0,q⟩=(Bk q ((Ab p).lsn:Nat),0)∧K8 (Bk q ((Ab p).lsn:Nat))∧Ab (Bk q ((Ab p).lsn:Nat))=⟨(Ab p).lsn,(Ab q).kind,(Ab q).link,(Ab q).Ai⟩:=by
 have d:=lI c.is a.is;refine⟨?_,d⟩;have g:Bk q 0=q:=by have:=a.pl;unfold Ny at this;rw[f]at this;exact this
 have e:Ca p ⟨7,0,Bk p 0,q⟩=(Bk q ((Ab p).lsn:Nat),true):=by
  unfold Ca;rw[if_neg (show ¬ (7:Int)=1 by decide),if_neg (show ¬ (7:Int)=2 by decide),if_neg (show ¬ (7:Int)=3 by decide),if_neg (show ¬ (7:Int)=4 by decide),if_neg (show ¬ (7:Int)=5 by decide),if_neg (show ¬ (7:Int)=6 by decide),if_pos rfl];unfold Gq;rw[if_pos ⟨rfl,rfl,by simp only;rw[a.size];decide,g⟩];simp only;rw[decide_eq_false (by rw[d.1.size];decide)];rfl
 have b:Dg p ⟨7,0,Bk p 0,q⟩=true:=by unfold Dg;rw[e,c.is];rfl
 rw[Ug b,e]
theorem Qh {p:ByteArray}(b:K8 p){l:Int}(a:Rc.num l):K8 (Bk p l)∧Ab (Bk p l)=⟨l.toNat,(Ab p).kind,(Ab p).link,(Ab p).Ai⟩:=by
 have h:=Pb b.is (l:=l.toNat) (by have:=a.2;omega);rw[show((l.toNat:Nat):Int)=l from by have:=a.1;omega]at h;exact h
end Go.Proofs.YtpogpkonojhakaaGreatDoor
