import Derived.Test.YtpogpkonojhakaaGreatDoorHk00
import Derived.Test.YtpogpkonojhakaaGreatDoorHk17
import Derived.Test.YtpogpkonojhakaaGreatDoorHk33
set_option maxRecDepth 100000
set_option maxHeartbeats 16000000
set_option linter.unusedSimpArgs false
namespace Go.Proofs.YtpogpkonojhakaaGreatDoor
open Go.ChangeShapes Go.WideShapes Go.ChangeAt Go.RowKit
instance:Inhabited wZ:=⟨⟨0,0,0,0,0,0,0⟩⟩
theorem iU:Tryz.prog.cellsOf 45=7:=by kernel_rfl
theorem uP:1≤Tryz.prog.bytesOf 45:=by decide+kernel
theorem uQ:Tryz.prog.cellsOf 5=1:=by kernel_rfl
theorem cC:Tryz.prog.cellsOf 43=2:=by kernel_rfl
theorem rV:∃ f0 f1 f2 f3 f4 f5:Field,Tryz.prog.underlying 45=some (.struct #[f0,f1,f2,f3,f4,f5])∧(f0.offset=0∧f1.offset=1∧f2.offset=2∧f3.offset=3∧f4.offset=4∧f5.offset=5)∧f0.type=3∧f1.type=3∧f2.type=3∧f3.type=3∧f4.type=5∧f5.type=43:=
 ⟨_,_,_,_,_,_,zF,⟨rfl,rfl,rfl,rfl,rfl,rfl⟩,rfl,rfl,rfl,rfl,rfl,rfl⟩
theorem nH:∃ f0 f1:Field,Tryz.prog.underlying 43=some (.struct #[f0,f1])∧(f0.offset=0∧f1.offset=1)∧f0.type=3∧f1.type=3:=⟨_,_,Od,⟨rfl,rfl⟩,rfl,rfl⟩
theorem uR {n:Int}(h:(Lit.int .u8 n).wf=true):∃ x:Nat,n=(x:Int)∧x<256:=by
 have a:=bounds_u8 h;exact⟨n.toNat,by omega,by omega⟩
section
variable {H : Type} {enc : TypeId × Value → H} {w : World} {base : Nat} {spare : Nat → Bool} {held : Bool}
theorem nI {fuel:Nat}{cs:List Value}{x:DataW H×List MemPlace}(h:DataW.trod enc Tryz.prog w base spare held fuel 43 cs=some x):∃ a b:Int,cs=[.int .i64 a,.int .i64 b]:=by
 obtain⟨f0,f1,j,⟨k,o1⟩,t0,t1⟩:=nH;obtain⟨n,c,d⟩:=Uj j h;rw[cC]at c;obtain⟨c0,o,rfl⟩:∃ a b,cs=[a,b]:=by
  match cs,c with
  |[a,b],_=>exact⟨a,b,rfl⟩
 obtain⟨p,e,l⟩:=d 0 f0 rfl;obtain⟨q,f,m⟩:=d 1 f1 rfl;rw[k,t0,Qi]at e;rw[o1,t1,Qi]at f;obtain⟨i0,g,_,_⟩:=DataW.trod_int uS e;obtain⟨i1,i,_,_⟩:=DataW.trod_int uS f
 simp at g i
 exact⟨i0,i1,by rw[g,i]⟩
theorem rW (fuel:Nat)(cs:List Value)(x:DataW H×List MemPlace)(h:DataW.trod enc Tryz.prog w base spare held fuel 45 cs=some x)(_hL:Ra 45 x.1):∃ a:wZ,cs=rU a∧a.c<256:=by
 obtain⟨f0,f1,f2,f3,f4,f5,D,⟨E,o1,F,G,I,J⟩,t0,t1,t2,t3,t4,t5⟩:=rV;obtain⟨n,m,i⟩:=Uj D h;rw[iU]at m;obtain⟨c0,S,c2,c3,c4,c5,T,rfl⟩:∃ a b c d e f g,cs=[a,b,c,d,e,f,g]:=by
  match cs,m with
  |[a,b,c,d,e,f,g],_=>exact⟨a,b,c,d,e,f,g,rfl⟩
 obtain⟨U,o,K⟩:=i 0 f0 rfl;obtain⟨V,p,L⟩:=i 1 f1 rfl;obtain⟨W,q,M⟩:=i 2 f2 rfl;obtain⟨X,r,N⟩:=i 3 f3 rfl;obtain⟨Y,s,O⟩:=i 4 f4 rfl;obtain⟨Z,t,P⟩:=i 5 f5 rfl;rw[E,t0,Qi]at o;rw[o1,t1,Qi]at p;rw[F,t2,Qi]at q;rw[G,t3,Qi]at r;rw[I,t4,uQ]at s;rw[J,t5,cC]at t;obtain⟨i0,u,_,_⟩:=DataW.trod_int uS o;obtain⟨i1,v,_,_⟩:=DataW.trod_int uS p;obtain⟨i2,y,_,_⟩:=DataW.trod_int uS q;obtain⟨i3,A,_,_⟩:=DataW.trod_int uS r;obtain⟨i4,B,_,j⟩:=DataW.trod_int iY s;obtain⟨a5,Q,C⟩:=nI t;obtain⟨z,rfl,R⟩:=uR j
 simp at u v y A B C
 obtain⟨k,l⟩:=C;exact⟨⟨i0,i1,i2,i3,z,a5,Q⟩,by rw[u,v,y,A,B,k,l];rfl,R⟩
theorem open_hkas {r:Reach}{e:Nat}{v:Value}{d:DataW H}{f:List MemPlace}(b:Value.okWide Tryz.prog w r e 22 v)(g:DataW.Trod enc Tryz.prog w base spare held 22 v d f)(h:Ra 22 d):
 ∃ (A:Option Addr) (c:Nat) (l:List wZ),v= .slice A l.length c∧Reads w A c l.length (l.flatMap rU)∧(∀ a∈l,a.c<256)∧l.length≤140737488355328:=by
 obtain⟨a,len,cap,rfl⟩:=okWide_slice zG b;obtain⟨fuel,i⟩:=g;obtain⟨A,c,l,j,m,n,o⟩:=qV (en:=rU) (k:=7) bZ (by omega) zG iU uP (Q:=fun a=>a.c<256) rW h i;exact⟨A,c,l,by simpa[Value.cells]using j,m,n,o⟩
end
end Go.Proofs.YtpogpkonojhakaaGreatDoor
