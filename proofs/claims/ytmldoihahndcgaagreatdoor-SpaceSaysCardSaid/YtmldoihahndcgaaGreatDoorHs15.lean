import Derived.Test.YtmldoihahndcgaaGreatDoorHs00
import Derived.Test.YtmldoihahndcgaaGreatDoorHs05
import Derived.Test.YtmldoihahndcgaaGreatDoorHs01
import Derived.Deep.Slices
import Derived.Test.YtmldoihahndcgaaGreatDoorHs10
import Derived.Test.YtmldoihahndcgaaGreatDoorHs13
import Derived.Test.YtmldoihahndcgaaGreatDoorHs14
set_option maxRecDepth 100000
set_option maxHeartbeats 16000000
set_option linter.unusedSimpArgs false
namespace Lg
end Lg
namespace Go.Proofs.YtmldoihahndcgaaGreatDoor
open Go.RowKit
structure tL where
 r:Rc.Rec
 A:Option Addr
 c:Nat
 B:Option Addr
 d:Nat
open Go.ChangeShapes Go.WideShapes Go.ChangeAt
section
variable {H : Type} {enc : TypeId × Value → H} {w : World} {base : Nat} {spare : Nat → Bool} {held : Bool}
instance:Inhabited Rc.A9:=⟨⟨0,0,0,false⟩⟩
instance:Inhabited Rc.Bp:=⟨⟨0,0⟩⟩
instance:Inhabited tL:=⟨⟨⟨0,0,0,0,0,0,0,⟨0,0,⟨#[]⟩,⟨#[]⟩⟩,0,0,⟨⟨#[]⟩,0,0⟩,[],[]⟩,none,0,none,0⟩⟩
end
structure tM where
 kind:Int
 Ac:Int
 n:Int
 o:Rc.Op
 p:tL
instance:Inhabited tM:=⟨⟨0,0,0,⟨0,0,⟨#[]⟩,⟨#[]⟩⟩,⟨⟨0,0,0,0,0,0,0,⟨0,0,⟨#[]⟩,⟨#[]⟩⟩,0,0,⟨⟨#[]⟩,0,0⟩,[],[]⟩,none,0,none,0⟩⟩⟩
section
variable {H : Type} {enc : TypeId × Value → H} {w : World} {base : Nat} {spare : Nat → Bool} {held : Bool}
end
open Sc
def rF (o:Rc.Op)(b:ByteArray):ByteArray×Int:=aJ b ⟨o.kind,o.slot,o.Cs,o.new⟩
theorem oA (o:Rc.Op)(b:ByteArray)(h:(rF o b).2=0):Bk (rF o b).1=true:=by
 unfold rF aJ at h ⊢
 split
 ·rename_i a
  have c:=(pR a).2.1;unfold D9 at c;rw[Bool.and_eq_true]at c;exact c.1
 ·rename_i a
  rw[if_neg a]at h;exact absurd h (by decide)
end Go.Proofs.YtmldoihahndcgaaGreatDoor
