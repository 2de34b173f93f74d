import Derived.KernelRfl
import Derived.Lib.Hide
theorem Kr {p:Prop}(h:p:=by kernel_rfl):p:=h
theorem Hq {p:Prop}(h:p):Go.RowKit.Hid p:=h
namespace Go.Proofs.YtilakddepaplhaaGreat
open Go
instance:Coe Int Value:=⟨fun x=>.int .i64 x⟩
instance:Coe Nat Value:=⟨fun x=>.int .i64 x⟩
instance:Coe Bool Value:=⟨fun x=>.bool x⟩
instance:Coe ByteArray Value:=⟨fun x=>.string x⟩
instance:CoeDep Unit () Value:=⟨.int .i64 0⟩
instance:CoeDep String "s" Value:=⟨.slice none 0 0⟩
instance:CoeDep String "" Value:=⟨.string ⟨#[]⟩⟩
end Go.Proofs.YtilakddepaplhaaGreat
