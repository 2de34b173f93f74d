import Derived.KernelRfl
import Derived.Lib.Hide
import Derived.OrdersHeld
import Derived.Deep.RegionHeld3
import Derived.Deep.MidRow
theorem Kr {p:Prop}(h:p:=by kernel_rfl):p:=h
theorem Hq {p:Prop}(h:p):Go.RowKit.Hid p:=h
theorem ex {α:Sort _}(e:α):∃ x,x=e:=⟨e,rfl⟩
namespace Go.Proofs.YtmebkghdkeeobaaGreatDoor
open Go
instance:Coe Int Value:=⟨fun x=>.int .i64 x⟩
instance:Coe Nat Value:=⟨fun x=>.int .i64 x⟩
instance:Coe Bool Value:=⟨fun x=>.bool x⟩
instance:Coe ByteArray Value:=⟨fun x=>.string x⟩
instance:CoeDep Unit () Value:=⟨.int .i64 0⟩
instance:CoeDep String "s" Value:=⟨.slice none 0 0⟩
instance:CoeDep String "" Value:=⟨.string ⟨#[]⟩⟩
end Go.Proofs.YtmebkghdkeeobaaGreatDoor
namespace Go
theorem bC {w:World}{g:Nat}{cs:Array Value}{t:TypeId}{fr:Nat×Nat}(h:w.heap[g]? =some (.cells cs t fr))(i:Nat):w.cell? ⟨g,i,none⟩=cs[i]? :=by simp[World.cell?,h]
theorem pT:(∀ (l:List Value) (i:Nat) (v:Value),l.toArray.setIfInBounds i v=(l.set i v).toArray)∧(∀ (a:Value) (l:List Value) (v:Value),(a::l).set 0 v=v::l)∧∀ (a:Value) (l:List Value) (i:Nat) (v:Value),(a::l).set (i+1) v=a::l.set i v:=⟨fun _ _ _=>List.setIfInBounds_toArray ..,fun _ _ _=>rfl,fun _ _ _ _=>rfl⟩
theorem Na {p:Prop}(h:p:=by (try simp only[Act.put,pT]);rfl):p:=h
section
variable {P:Program}{ops:Array Oper}{Q:Exit→Act→World→Prop}{md:Region.Mode}{S:World→Prop}{op:Op}{ty:TypeId}{pos:String}{aft:Array Edge}{g:Option (Nat×Bool)}{v:Value}{fuel:Nat}{listed:Array Bool}{a a':Act}{w:World}{d:Option Nat}
theorem tkP (i:Nat)(h:wpAnyH P md ops Q S fuel (listed.setIfInBounds i true) a' w)(hi:ops[i]? =some ⟨d,op,ty,pos,aft,g⟩:=by rfl)
 (hy:∀ w,S w→(execOp a.eval ⟨d,op,ty,pos,aft,g⟩).run P w= .ok (.value v) w:=by
  intro u hSu
  try have hSz:=Hy.out u hSu
  try have hSv:=bC hSu
  try
   have hSa:=bC hSu.1
   have hSb:=bC hSu.2
  clear hSu
  go_simp
  try with_reducible rfl)
 (ha:a.put d v=a':=by exact Na)
 (hw:Region.wanted ⟨d,op,ty,pos,aft,g⟩ (yielded ops a.tmps)=true:=by rfl) (hS:S w:=by assumption) (hs:Region.noSelect ops=true:=by kernel_rfl) (hf:Region.free md ops listed i=true:=by kernel_rfl) (hr:(Region.ready md ops listed).contains i=true:=by kernel_rfl) (hQ:∀ c a w,Q (.panic c) (a.put d v) w→Q (.panic c) a w:=by exact fun _ _ _ h=>h):
 wpAnyH P md ops Q S (fuel+1) listed a w:=wpAnyH_take hi hs hf hr hQ (.inl ⟨hw,hy⟩) hS (ha▸h)
theorem tkL {x:Operand}{cs:Array Value}{t:TypeId}{fr:Nat×Nat}{b:Nat}{T:TypeDesc}{tl:TypeId}(i:Nat)(hu:P.underlying tl=some T)(h:wpAnyH P md ops Q S fuel (listed.setIfInBounds i true) a' w)(hi:ops[i]? =some ⟨d,.load tl x,ty,pos,aft,g⟩:=by rfl)
 (hx:a.eval x= .pointer (some ⟨b,0,none⟩):=by rfl)
 (hc:∀ u,S u→u.heap[b]? =some (.cells cs t fr):=by first|exact fun _ h=>h|exact fun _ h=>h.1|exact fun _ h=>h.2)
 (ha:a.put d (.agg cs)=a':=by exact Na)
 (hw:Region.wanted ⟨d,.load tl x,ty,pos,aft,g⟩ (yielded ops a.tmps)=true:=by rfl) (hd:T.isRow=true:=by kernel_rfl) (hn:(P.info? tl).map (·.size)=some cs.toList.length:=by kernel_rfl) (hS:S w:=by assumption) (hs:Region.noSelect ops=true:=by kernel_rfl) (hf:Region.free md ops listed i=true:=by kernel_rfl) (hr:(Region.ready md ops listed).contains i=true:=by kernel_rfl) (hQ:∀ c a w,Q (.panic c) (a.put d (.agg cs)) w→Q (.panic c) a w:=by exact fun _ _ _ h=>h):
 wpAnyH P md ops Q S (fuel+1) listed a w:=wpAnyH_take hi hs hf hr hQ (yieldsIf_load_mid hw tl x rfl b 0 hx cs.toList T (fun u hu=>by intro j v hj;rw[Nat.zero_add,bC (hc u hu)];simpa using hj) hu hd hn) hS (ha▸h)
theorem rdP (i:Nat)
 (h:∀ K':Act→World→Prop,Shut (∀ a w,S w→(S w→wpAnyH P md ops Q S fuel (listed.setIfInBounds i true) a w)→K' a w)→if Region.wanted ⟨d,op,ty,pos,aft,g⟩ (yielded ops a.tmps)=true then Oper.wp P ⟨d,op,ty,pos,aft,g⟩ a w K' Q else K' (a.put d undef) w)
 (hi:ops[i]? =some ⟨d,op,ty,pos,aft,g⟩:=by rfl) (hr:Region.ready md ops listed=[i]:=by kernel_rfl):wpAnyH P md ops Q S (fuel+1) listed a w:=
 wpAnyH_ready hr (by simp) (AllReadyH.cons hi h AllReadyH.nil)
theorem hKo {R:Act→World→Prop}{K:Act→World→Prop}(hK:Shut (∀ a w,S w→(S w→R a w)→K a w))(h:S w→R a' w)(hS:S w:=by first|assumption|exact hSn)(ha:a=a':=by exact Na):K a w:=hK.out _ _ hS (fun x=>ha▸h x)
theorem rgH {id:Nat}(h:S w.drew→wpAnyH P .any ops Q S ops.size (Array.replicate ops.size false) a w.drew)(hS:S w.drew:=by first|assumption|exact hSn)(hm:P.follows .mixedOrders=true:=by kernel_rfl):(Code.region id ops true).wp P Q a w:=wp_region_held_drew hm hS h
end
end Go
