import Derived.Test.YtmfkhdhnbkambaaGreatDoorProg
import Derived.Below
import Derived.WalkKit
import Derived.ProofKit
import Derived.KernelRfl
import Derived.Lib.Hide
import Derived.OrdersHeld
import Derived.Deep.RegionHeld3
import Derived.Deep.MidRow
theorem Kr {p:Prop}(h:p:=by kernel_rfl):p:=h
theorem Hq {p:Prop}(h:p):Go.RowKit.Hid p:=h
theorem ex {α:Sort _}(e:α):∃ x,x=e:=⟨e,rfl⟩
namespace Go.Proofs.YtmfkhdhnbkambaaGreatDoor
open Go
instance:Coe Int Value:=⟨fun x=>.int .i64 x⟩
instance:Coe Nat Value:=⟨fun x=>.int .i64 x⟩
instance:Coe Bool Value:=⟨fun x=>.bool x⟩
instance:Coe ByteArray Value:=⟨fun x=>.string x⟩
instance:CoeDep Unit () Value:=⟨.int .i64 0⟩
instance:CoeDep String "s" Value:=⟨.slice none 0 0⟩
instance:CoeDep String "" Value:=⟨.string ⟨#[]⟩⟩
end Go.Proofs.YtmfkhdhnbkambaaGreatDoor
namespace Go.Proofs
open Go.RowKit in
abbrev Bw (a b:World):=Below a.heap.size a b
abbrev Cq:=Calls Tryz.prog
open Go.RowKit in
abbrev Cr (f:FuncId)(a:Array Value)(w:World)(v:Value):Prop:=Calls Tryz.prog f a w fun e w'=>e= .returned v∧Bw w w'
abbrev yO:=Tryz.underlying0
abbrev Gy:=Tryz.underlying108
abbrev Hw:=Tryz.underlying112
abbrev yU:=Tryz.underlying124
abbrev zB:=Tryz.underlying138
abbrev nD:=Tryz.underlying160
abbrev uD:=Tryz.underlying161
abbrev uI:=Tryz.underlying187
abbrev yV:=Tryz.underlying189
abbrev nE:=Tryz.underlying191
abbrev wL:=Tryz.underlying192
abbrev zE:=Tryz.underlying2
abbrev wF:=Tryz.underlying20
abbrev wM:=Tryz.underlying205
abbrev yW:=Tryz.underlying206
abbrev zF:=Tryz.underlying21
abbrev uE:=Tryz.underlying218
abbrev wG:=Tryz.underlying221
abbrev wH:=Tryz.underlying223
abbrev uJ:=Tryz.underlying241
abbrev yX:=Tryz.underlying243
abbrev yY:=Tryz.underlying245
abbrev zM:=Tryz.underlying25
abbrev uF:=Tryz.underlying255
abbrev wI:=Tryz.underlying256
abbrev yQ:=Tryz.underlying259
abbrev V9:=Tryz.underlying26
abbrev yP:=Tryz.underlying260
abbrev yR:=Tryz.underlying262
abbrev zC:=Tryz.underlying265
abbrev yS:=Tryz.underlying273
abbrev yT:=Tryz.underlying276
abbrev Fy:=Tryz.underlying28
abbrev wJ:=Tryz.underlying280
abbrev wK:=Tryz.underlying281
abbrev uG:=Tryz.underlying283
abbrev uH:=Tryz.underlying285
abbrev xZ:=Tryz.underlying3
abbrev Jj:=Tryz.underlying30
abbrev sQ:=Tryz.underlying31
abbrev yH:=Tryz.underlying33
abbrev dI:=Tryz.underlying34
abbrev Ar:=Tryz.underlying36
abbrev yA:=Tryz.underlying4
abbrev oE:=Tryz.underlying42
abbrev Y0:=Tryz.underlying44
abbrev zH:=Tryz.underlying46
abbrev C5:=Tryz.underlying49
abbrev mQ:=Tryz.underlying5
abbrev oH:=Tryz.underlying59
abbrev zO:=Tryz.underlying67
abbrev vX:=Tryz.underlying80
abbrev bM:=Tryz.underlying9
end Go.Proofs
namespace Go
theorem bC {w:World}{g:Nat}{cs:Array Value}{t:TypeId}{fr:Nat×Nat}(h:w.heap[g]? =some (.cells cs t fr))(i:Nat):w.cell? ⟨g,i,none⟩=cs[i]? :=by simp[World.cell?,h]
theorem pT:(∀ (l:List Value) (i:Nat) (v:Value),l.toArray.setIfInBounds i v=(l.set i v).toArray)∧(∀ (a:Value) (l:List Value) (v:Value),(a::l).set 0 v=v::l)∧∀ (a:Value) (l:List Value) (i:Nat) (v:Value),(a::l).set (i+1) v=a::l.set i v:=⟨fun _ _ _=>List.setIfInBounds_toArray ..,fun _ _ _=>rfl,fun _ _ _ _=>rfl⟩
theorem Na {p:Prop}(h:p:=by (try simp only[Act.put,pT]);rfl):p:=h
section
variable {P:Program}{ops:Array Oper}{Q:Exit→Act→World→Prop}{md:Region.Mode}{S:World→Prop}{op:Op}{ty:TypeId}{pos:String}{aft:Array Edge}{g:Option (Nat×Bool)}{v:Value}{fuel:Nat}{listed:Array Bool}{a a':Act}{w:World}{d:Option Nat}
theorem Bb (i:Nat)(h:wpAnyH P md ops Q S fuel (listed.setIfInBounds i true) a' w)(hi:ops[i]? =some ⟨d,op,ty,pos,aft,g⟩:=by rfl)
 (hy:∀ w,S w→(execOp a.eval ⟨d,op,ty,pos,aft,g⟩).run P w= .ok (.value v) w:=by
  intro u hSu
  try have hSz:=Hy.out u hSu
  try have hSv:=bC hSu
  try
   have hSa:=bC hSu.1;have hSb:=bC hSu.2
  clear hSu
  go_simp
  try with_reducible rfl)
 (b:a.put d v=a':=by exact Na)
 (e:Region.wanted ⟨d,op,ty,pos,aft,g⟩ (yielded ops a.tmps)=true:=by rfl) (f:S w:=by assumption) (j:Region.noSelect ops=true:=by kernel_rfl) (k:Region.free md ops listed i=true:=by kernel_rfl) (l:(Region.ready md ops listed).contains i=true:=by kernel_rfl) (m:∀ c a w,Q (.panic c) (a.put d v) w→Q (.panic c) a w:=by exact fun _ _ _ h=>h):
 wpAnyH P md ops Q S (fuel+1) listed a w:=wpAnyH_take hi j k l m (.inl ⟨e,hy⟩) f (b▸h)
theorem fA {x:Operand}{cs:Array Value}{t:TypeId}{fr:Nat×Nat}{b:Nat}{T:TypeDesc}{e:TypeId}(i:Nat)(f:P.underlying e=some T)(h:wpAnyH P md ops Q S fuel (listed.setIfInBounds i true) a' w)(hi:ops[i]? =some ⟨d,.load e x,ty,pos,aft,g⟩:=by rfl)
 (k:a.eval x= .pointer (some ⟨b,0,none⟩):=by rfl)
 (l:∀ u,S u→u.heap[b]? =some (.cells cs t fr):=by first|exact fun _ h=>h|exact fun _ h=>h.1|exact fun _ h=>h.2)
 (m:a.put d (.agg cs)=a':=by exact Na)
 (n:Region.wanted ⟨d,.load e x,ty,pos,aft,g⟩ (yielded ops a.tmps)=true:=by rfl) (o:T.isRow=true:=by kernel_rfl) (p:(P.info? e).map (·.size)=some cs.toList.length:=by kernel_rfl) (q:S w:=by assumption) (r:Region.noSelect ops=true:=by kernel_rfl) (s:Region.free md ops listed i=true:=by kernel_rfl) (y:(Region.ready md ops listed).contains i=true:=by kernel_rfl) (z:∀ c a w,Q (.panic c) (a.put d (.agg cs)) w→Q (.panic c) a w:=by exact fun _ _ _ h=>h):
 wpAnyH P md ops Q S (fuel+1) listed a w:=wpAnyH_take hi r s y z (yieldsIf_load_mid n e x rfl b 0 k cs.toList T (fun u f=>by intro j v A;rw[Nat.zero_add,bC (l u f)];simpa using A) f o p) q (m▸h)
theorem Dg (i:Nat)
 (h:∀ K':Act→World→Prop,Shut (∀ a w,S w→(S w→wpAnyH P md ops Q S fuel (listed.setIfInBounds i true) a w)→K' a w)→if Region.wanted ⟨d,op,ty,pos,aft,g⟩ (yielded ops a.tmps)=true then Oper.wp P ⟨d,op,ty,pos,aft,g⟩ a w K' Q else K' (a.put d undef) w)
 (hi:ops[i]? =some ⟨d,op,ty,pos,aft,g⟩:=by rfl) (b:Region.ready md ops listed=[i]:=by kernel_rfl):wpAnyH P md ops Q S (fuel+1) listed a w:=
 wpAnyH_ready b (by simp) (AllReadyH.cons hi h AllReadyH.nil)
theorem tkQ (i:Nat)(h:wpAnyH P md ops Q S fuel (listed.setIfInBounds i true) a' w)(hi:ops[i]? =some ⟨d,op,ty,pos,aft,g⟩:=by rfl)
 (hy:∀ w,S w→(execOp a.eval ⟨d,op,ty,pos,aft,g⟩).run P w= .ok (.value v) w:=by
  intro w hSw
  (try dsimp only at hSw)
  go_simp
  (try with_reducible rfl))
 (ha:a.put d v=a':=by exact Na)
 (hw:Region.wanted ⟨d,op,ty,pos,aft,g⟩ (yielded ops a.tmps)=true:=by rfl) (hS:S w:=by assumption) (hs:Region.noSelect ops=true:=by kernel_rfl) (hf:Region.free md ops listed i=true:=by kernel_rfl) (hr:(Region.ready md ops listed).contains i=true:=by kernel_rfl) (hQ:∀ c a w,Q (.panic c) (a.put d v) w→Q (.panic c) a w:=by exact fun _ _ _ h=>h):
 wpAnyH P md ops Q S (fuel+1) listed a w:=wpAnyH_take hi hs hf hr hQ (.inl ⟨hw,hy⟩) hS (ha▸h)
theorem Cw {R:Act→World→Prop}{K:Act→World→Prop}(b:Shut (∀ a w,S w→(S w→R a w)→K a w))(h:S w→R a' w)(c:S w:=by first|assumption|exact hSn)(d:a=a':=by exact Na):K a w:=b.out _ _ c (fun x=>d▸h x)
theorem G7 {id:Nat}(h:S w.drew→wpAnyH P .any ops Q S ops.size (Array.replicate ops.size false) a w.drew)(b:S w.drew:=by first|assumption|exact hSn)(c:P.follows .mixedOrders=true:=by kernel_rfl):(Code.region id ops true).wp P Q a w:=wp_region_held_drew c b h
end
end Go
