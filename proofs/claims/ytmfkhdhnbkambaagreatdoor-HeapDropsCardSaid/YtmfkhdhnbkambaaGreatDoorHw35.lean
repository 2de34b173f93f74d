import Derived.Test.YtmfkhdhnbkambaaGreatDoorHw00
import Derived.Test.YtmfkhdhnbkambaaGreatDoorHw17
import Derived.Test.YtmfkhdhnbkambaaGreatDoorHw33
set_option maxRecDepth 100000
set_option maxHeartbeats 16000000
set_option linter.unusedSimpArgs false
namespace Go.Proofs.YtmfkhdhnbkambaaGreatDoor
open Go.ChangeShapes Go.WideShapes Go.ChangeAt Go.RowKit
theorem rN:1≤Tryz.prog.bytesOf 3:=by decide+kernel
section
variable {H : Type} {enc : TypeId × Value → H} {w : World} {base : Nat} {spare : Nat → Bool} {held : Bool}
theorem mP (fuel:Nat)(cs:List Value)(x:DataW H×List MemPlace)(h:DataW.trod enc Tryz.prog w base spare held fuel 3 cs=some x)(_hL:Vt 3 x.1):∃ a:Int,cs=Jn a∧True:=by
 obtain⟨i0,b,_,_⟩:=DataW.trod_int xZ h;exact⟨i0,b,trivial⟩
theorem open_nums {r:Reach}{e:Nat}{v:Value}{d:DataW H}{f:List MemPlace}(b:Value.okWide Tryz.prog w r e 80 v)(g:DataW.Trod enc Tryz.prog w base spare held 80 v d f)(h:Vt 80 d):
 ∃ (A:Option Addr) (c:Nat) (l:List Int),v= .slice A l.length c∧Reads w A c l.length (l.flatMap Jn)∧l.length≤140737488355328:=by
 obtain⟨a,len,cap,rfl⟩:=okWide_slice vX b;obtain⟨fuel,i⟩:=g;obtain⟨A,c,l,j,m,-,n⟩:=qH (en:=Jn) (k:=1) K6 (by omega) vX vV rN (Q:=fun _=>True) mP h i;exact⟨A,c,l,by simpa[Value.cells]using j,m,n⟩
end
end Go.Proofs.YtmfkhdhnbkambaaGreatDoor
