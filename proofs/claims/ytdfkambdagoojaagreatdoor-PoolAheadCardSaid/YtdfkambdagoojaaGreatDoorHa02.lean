import Derived.Test.YtdfkambdagoojaaGreatDoorHa00
import Derived.OrdersHeld
import Derived.Deep.RegionHeld3
import Derived.Lib.Bytealg
import Derived.Lib.Small
import Derived.Shelf.Small.Strs
import Derived.Shelf.Small.Wraps
import Derived.Shelf.SlSortCmp.NoneTotal
import Derived.Test.YtdfkambdagoojaaGreatDoorProg
set_option maxRecDepth 100000
set_option maxHeartbeats 16000000
set_option linter.unusedSimpArgs false
namespace Go
section
variable {P : Program} {ops : Array Oper} {Q : Exit → Act → World → Prop} {md : Region.Mode} {S : World → Prop} {z : Nat}
def ShutDown (md:Region.Mode)(ops:Array Oper)(l:Array Bool):Prop:=
 ∀ j o,ops[j]? =some o→l.getD j false=true→∀ e∈o.after,Region.binds md e=true→l.getD e.on false=true
def shutDownB (md:Region.Mode)(ops:Array Oper)(l:Array Bool):Bool:=
 (List.range ops.size).all fun j=> !l.getD j false||match ops[j]? with
   |none=>true
   |some o=>o.after.all fun e=> !Region.binds md e||l.getD e.on false
theorem shutDown_of {l:Array Bool}(h:shutDownB md ops l=true):ShutDown md ops l:=by
 intro j o ho hj e he hb
 unfold shutDownB at h
 rw[List.all_eq_true]at h
 have h1:=h j (List.mem_range.2 (Array.getElem?_eq_some_iff.1 ho).1)
 rw[ho,hj]at h1
 simp only[Bool.not_true,Bool.false_or]at h1
 have h2:=Array.all_eq_true_iff_forall_mem.1 h1 e he
 rw[hb]at h2
 simpa using h2
theorem getD_swap {l:Array Bool}{i:Nat}(h:l.getD i true=false):l.getD i false=false:=by
 rcases Nat.lt_or_ge i l.size with h'|h'
 ·simp[h']at h ⊢;exact h
 ·simp[Array.getElem?_eq_none h']at h
theorem getD_setSelf {l:Array Bool}{i:Nat}(h:l.getD i true=false):(l.setIfInBounds i true).getD i false=true:=by
 rcases Nat.lt_or_ge i l.size with h'|h'
 ·simp[h']
 ·simp[Array.getElem?_eq_none h']at h
theorem shutDown_set {l:Array Bool}{j:Nat}(h:ShutDown md ops l)(hj:j∈Region.ready md ops l):ShutDown md ops (l.setIfInBounds j true):=by
 obtain⟨h0,oj,hoj,hall⟩:=mem_ready.1 hj
 intro k o hk hl e he hb
 by_cases hkj:j=k
 ·subst hkj
  rw[hoj]at hk
  injection hk with hk
  subst hk
  exact getD_set_true (hall e he hb)
 ·rw[getD_set_ne false hkj]at hl
  exact getD_set_true (h k o hk hl e he hb)
def pathB (md:Region.Mode)(ops:Array Oper):List Nat→Bool
 |[]=>true
 |[_]=>true
 |a::b::r=>(match ops[b]? with
  |none=>false
  |some o=>o.after.any fun e=>Region.binds md e&&e.on==a)&&pathB md ops (b::r)
theorem path_listed {l:Array Bool}(hc:ShutDown md ops l):∀ (p:List Nat) (a:Nat),pathB md ops (a::p)=true→l.getD ((a::p).getLast (by simp)) false=true→l.getD a false=true:=by
 intro p
 induction p with
 |nil=>intro a _ h;simpa using h
 |cons b r ih=>
  intro a hp hl
  unfold pathB at hp
  rw[Bool.and_eq_true]at hp
  have hb:=ih b hp.2 (by simpa using hl)
  cases ho:ops[b]? with
  |none=>rw[ho]at hp;simp at hp
  |some o=>
   rw[ho]at hp
   obtain⟨e,he,h2⟩:=Array.any_eq_true'.1 hp.1
   rw[Bool.and_eq_true]at h2
   have h3:=hc b o ho hb e he h2.1
   rwa[show e.on=a by simpa using h2.2]at h3
def leads (md:Region.Mode)(ops:Array Oper)(i:Nat)(p:List Nat)(z:Nat):Bool:=pathB md ops (i::p)&&(i::p).getLast (by simp)==z&&i != z
theorem leads_not {l:Array Bool}{i:Nat}{p:List Nat}(h:leads md ops i p z=true)(hc:ShutDown md ops l)(hi:l.getD i true=false):z∉Region.ready md ops l:=by
 unfold leads at h
 rw[Bool.and_eq_true,Bool.and_eq_true]at h
 obtain⟨⟨h1,h2⟩,h3⟩:=h
 intro hz
 have h4:=shutDown_set hc hz
 have h5:=path_listed h4 p i h1 (by rw[show(i::p).getLast (by simp)=z by simpa using h2];exact getD_setSelf (mem_ready.1 hz).1)
 rw[getD_set_ne false (by simp at h3;exact fun e=>h3 e.symm)]at h5
 rw[getD_swap hi]at h5
 cases h5
def wpAnyZ (P:Program)(md:Region.Mode)(ops:Array Oper)(Q:Exit→Act→World→Prop)(S:World→Prop)(z:Nat):Nat→Array Bool→Act→World→Prop
 |0,listed,a,w=>Region.ready md ops listed=[]∧Q .normal a w
 |fuel+1,listed,a,w=>
  (Region.ready md ops listed=[]→Q .normal a w)∧
  ∀ i∈Region.ready md ops listed,wpOp P ops Q i (fun a' w'=>((listed.setIfInBounds i true).getD z true=false→S w')∧wpAnyZ P md ops Q S z fuel (listed.setIfInBounds i true) a' w') a w
theorem wpAny_of_Z:∀ (fuel:Nat) (listed:Array Bool) (a:Act) (w:World),wpAnyZ P md ops Q S z fuel listed a w→wpAny P md ops Q fuel listed a w
 |0,_,_,_,h=>h
 |fuel+1,_,_,_,h=>⟨h.1,fun i hi=>wpOp_mono (fun a' w' h'=>wpAny_of_Z fuel _ a' w' h'.2) (h.2 i hi)⟩
theorem wpAnyZ_first {i:Nat}{oi:Oper}{v:Value}{p:List Nat}(hi:ops[i]? =some oi)(hsel:∀ (j:Nat) (o:Oper) cs b,ops[j]? =some o→o.op≠ .select cs b)
 (hQ:∀ c a w,Q (.panic c) (a.put oi.dst v) w→Q (.panic c) a w) (hl:leads md ops i p z=true):
 ∀ (fuel:Nat) (listed:Array Bool) (a:Act) (w:World),ShutDown md ops listed→listed.getD z true=false→
  (∀ j oj,ops[j]? =some oj→j≠i→listed.getD j true=false→(∀ e∈oj.after,Region.binds md e=true→e.on≠i)→oi.apart ops oj=true)→
  i∈Region.ready md ops listed→YieldsIf P ops S oi v a→S w→
  wpAnyZ P md ops Q S z fuel (listed.setIfInBounds i true) (a.put oi.dst v) w→wpAnyZ P md ops Q S z (fuel+1) listed a w:=by
 have hiz:i≠z:=by
  unfold leads at hl
  rw[Bool.and_eq_true]at hl
  simpa using hl.2
 intro fuel
 induction fuel with
 |zero=>
  intro listed a w _ hzu _ hr hy hS H
  refine⟨fun h=>(by rw[h]at hr;cases hr),fun j hj=>?_⟩
  by_cases hji:j=i
  ·subst hji;exact hy.wpOp hi hS ⟨fun _=>hS,H⟩
  ·have:=ready_mono hj hji
   rw[H.1]at this
   cases this
 |succ fuel ih=>
  intro listed a w hsd hzu hfree hr hy hS H
  refine⟨fun h=>(by rw[h]at hr;cases hr),fun j hj=>?_⟩
  by_cases hji:j=i
  ·subst hji;exact hy.wpOp hi hS ⟨fun _=>hS,H⟩
  ·have hjz:j≠z:=fun e=>leads_not hl hsd (mem_ready.1 hr).1 (e▸hj)
   have h1:=H.2 j (ready_mono hj hji)
   obtain⟨hjun,oj,hoj,hall⟩:=mem_ready.1 hj
   have hnot:∀ e∈oj.after,Region.binds md e=true→e.on≠i:=fun e he hb heq=>by
    have h1:=hall e he hb
    have h0:=(mem_ready.1 hr).1
    rw[heq]at h1
    rw[getD_swap h0]at h1
    cases h1
   have h2:=wpOp_putIf hoj (hfree j oj hoj hji hjun hnot) (fun cs b=>hsel i oi cs b hi) (fun cs b=>hsel j oj cs b hoj) hQ hy h1
   have hfree':∀ k ok,ops[k]? =some ok→k≠i→(listed.setIfInBounds j true).getD k true=false→
    (∀ e∈ok.after,Region.binds md e=true→e.on≠i)→oi.apart ops ok=true:=fun k ok hk hki hun hno=>by
    refine hfree k ok hk hki ?_ hno
    by_cases hjk:j=k
    ·subst hjk;exact hjun
    ·rw[getD_set_ne true hjk]at hun;exact hun
   refine wpOp_mono (fun a' w' h3=>?_) h2
   have hSw:S w':=h3.2.1 (by rw[getD_set_ne true hjz,getD_set_ne true hiz];exact hzu)
   refine⟨fun _=>hSw,ih (listed.setIfInBounds j true) a' w' (shutDown_set hsd hj) (by rw[getD_set_ne true hjz];exact hzu) hfree' (ready_mono hr (Ne.symm hji)) h3.1 hSw ?_⟩
   rw[Array.setIfInBounds_comm _ _ hji]
   exact h3.2.2
theorem wpAnyZ_take {i:Nat}{oi:Oper}{v:Value}{p:List Nat}{fuel:Nat}{listed:Array Bool}{a:Act}{w:World}(hi:ops[i]? =some oi)
 (hl:leads md ops i p z=true) (hsd:shutDownB md ops listed=true) (hzu:listed.getD z true=false)
 (hs:Region.noSelect ops=true) (hf:Region.free md ops listed i=true) (hr:(Region.ready md ops listed).contains i=true)
 (hQ:∀ c a w,Q (.panic c) (a.put oi.dst v) w→Q (.panic c) a w) (hy:YieldsIf P ops S oi v a) (hS:S w)
 (h:wpAnyZ P md ops Q S z fuel (listed.setIfInBounds i true) (a.put oi.dst v) w):wpAnyZ P md ops Q S z (fuel+1) listed a w:=
 wpAnyZ_first hi (Region.noSelect_spec hs) hQ hl fuel listed a w (shutDown_of hsd) hzu (Region.free_spec hi hf) (by simpa using hr) hy hS h
theorem tzP {op:Op}{ty:TypeId}{pos:String}{aft:Array Edge}{g:Option (Nat×Bool)}{v:Value}{fuel:Nat}{listed:Array Bool}{a a':Act}{w:World}{d:Option Nat}(i:Nat)(p:List Nat)(h:wpAnyZ P md ops Q S z fuel (listed.setIfInBounds i true) a' w)(hi:ops[i]? =some ⟨d,op,ty,pos,aft,g⟩:=by rfl)
 (hy:∀ w,S w→(execOp a.eval ⟨d,op,ty,pos,aft,g⟩).run P w= .ok (.value v) w:=by
  intro u hSu
  try have hSz:=Hy.out u hSu
  try have hSv:=bC hSu
  try
   have hSa:=bC hSu.1
   have hSb:=bC hSu.2
  clear hSu
  go_simp
  try with_reducible rfl)
 (ha:a.put d v=a':=by exact Na)
 (hw:Region.wanted ⟨d,op,ty,pos,aft,g⟩ (yielded ops a.tmps)=true:=by rfl) (hS:S w:=by assumption) (hl:leads md ops i p z=true:=by kernel_rfl) (hsd:shutDownB md ops listed=true:=by kernel_rfl) (hzu:listed.getD z true=false:=by kernel_rfl) (hs:Region.noSelect ops=true:=by kernel_rfl) (hf:Region.free md ops listed i=true:=by kernel_rfl) (hr:(Region.ready md ops listed).contains i=true:=by kernel_rfl) (hQ:∀ c a w,Q (.panic c) (a.put d v) w→Q (.panic c) a w:=by exact fun _ _ _ h=>h):
 wpAnyZ P md ops Q S z (fuel+1) listed a w:=wpAnyZ_take hi hl hsd hzu hs hf hr hQ (.inl ⟨hw,hy⟩) hS (ha▸h)
theorem tzL {x:Operand}{cs:Array Value}{t:TypeId}{fr:Nat×Nat}{b:Nat}{T:TypeDesc}{tl:TypeId}{ty:TypeId}{pos:String}{aft:Array Edge}{g:Option (Nat×Bool)}{fuel:Nat}{listed:Array Bool}{a a':Act}{w:World}{d:Option Nat}(i:Nat)(p:List Nat)(hu:P.underlying tl=some T)(h:wpAnyZ P md ops Q S z fuel (listed.setIfInBounds i true) a' w)(hi:ops[i]? =some ⟨d,.load tl x,ty,pos,aft,g⟩:=by rfl)
 (hx:a.eval x= .pointer (some ⟨b,0,none⟩):=by rfl)
 (hc:∀ u,S u→u.heap[b]? =some (.cells cs t fr):=by first|exact fun _ h=>h|exact fun _ h=>h.1|exact fun _ h=>h.2)
 (ha:a.put d (.agg cs)=a':=by exact Na)
 (hw:Region.wanted ⟨d,.load tl x,ty,pos,aft,g⟩ (yielded ops a.tmps)=true:=by rfl) (hd:T.isRow=true:=by kernel_rfl) (hn:(P.info? tl).map (·.size)=some cs.toList.length:=by kernel_rfl) (hS:S w:=by assumption) (hl:leads md ops i p z=true:=by kernel_rfl) (hsd:shutDownB md ops listed=true:=by kernel_rfl) (hzu:listed.getD z true=false:=by kernel_rfl) (hs:Region.noSelect ops=true:=by kernel_rfl) (hf:Region.free md ops listed i=true:=by kernel_rfl) (hr:(Region.ready md ops listed).contains i=true:=by kernel_rfl) (hQ:∀ c a w,Q (.panic c) (a.put d (.agg cs)) w→Q (.panic c) a w:=by exact fun _ _ _ h=>h):
 wpAnyZ P md ops Q S z (fuel+1) listed a w:=wpAnyZ_take hi hl hsd hzu hs hf hr hQ (yieldsIf_load_mid hw tl x rfl b 0 hx cs.toList T (fun u hu=>by intro j v hj;rw[Nat.zero_add,bC (hc u hu)];simpa using hj) hu hd hn) hS (ha▸h)
theorem wpAnyZ_done {listed:Array Bool}{a:Act}{w:World}(hr:Region.ready md ops listed=[])(h:Q .normal a w):
 ∀ fuel,wpAnyZ P md ops Q S z fuel listed a w
 |0=>⟨hr,h⟩
 |_+1=>⟨fun _=>h,by rw[hr];simp⟩
def AllReadyZ (P:Program)(md:Region.Mode)(ops:Array Oper)(Q:Exit→Act→World→Prop)(S:World→Prop)(z fuel:Nat)(listed:Array Bool)(a:Act)(w:World)(rs:List Nat):Prop:=
 ∀ i∈rs,wpOp P ops Q i (fun a' w'=>((listed.setIfInBounds i true).getD z true=false→S w')∧wpAnyZ P md ops Q S z fuel (listed.setIfInBounds i true) a' w') a w
theorem AllReadyZ.nil {fuel:Nat}{listed:Array Bool}{a:Act}{w:World}:AllReadyZ P md ops Q S z fuel listed a w []:=fun _ h=>by cases h
theorem AllReadyZ.cons {fuel:Nat}{listed:Array Bool}{a:Act}{w:World}{i:Nat}{o:Oper}{rs:List Nat}(ho:ops[i]? =some o)
 (h:∀ K':Act→World→Prop,Shut (∀ a w,S w→(S w→wpAnyZ P md ops Q S z fuel (listed.setIfInBounds i true) a w)→K' a w)→if Region.wanted o (yielded ops a.tmps)=true then Oper.wp P o a w K' Q else K' (a.put o.dst undef) w)
 (hs:AllReadyZ P md ops Q S z fuel listed a w rs):AllReadyZ P md ops Q S z fuel listed a w (i::rs):=fun j hj=>by
 rcases List.mem_cons.1 hj with rfl|hj
 ·exact wpOp_step ho (fun K' hK=>h K' (fun a w hS hW=>hK a w ⟨fun _=>hS,hW hS⟩))
 ·exact hs j hj
theorem AllReadyZ.last {fuel:Nat}{listed:Array Bool}{a:Act}{w:World}{i:Nat}{o:Oper}{rs:List Nat}(ho:ops[i]? =some o)(hz:(listed.setIfInBounds i true).getD z true=true)
 (h:∀ K':Act→World→Prop,Shut (∀ a w,wpAnyZ P md ops Q S z fuel (listed.setIfInBounds i true) a w→K' a w)→if Region.wanted o (yielded ops a.tmps)=true then Oper.wp P o a w K' Q else K' (a.put o.dst undef) w)
 (hs:AllReadyZ P md ops Q S z fuel listed a w rs):AllReadyZ P md ops Q S z fuel listed a w (i::rs):=fun j hj=>by
 rcases List.mem_cons.1 hj with rfl|hj
 ·exact wpOp_step ho (fun K' hK=>h K' (fun a w hW=>hK a w ⟨fun h0=>(by rw[hz]at h0;cases h0),hW⟩))
 ·exact hs j hj
theorem wpAnyZ_ready {rs:List Nat}{fuel:Nat}{listed:Array Bool}{a:Act}{w:World}(hr:Region.ready md ops listed=rs)(hne:rs≠[])
 (h:AllReadyZ P md ops Q S z fuel listed a w rs):wpAnyZ P md ops Q S z (fuel+1) listed a w:=
 ⟨fun h0=>absurd (hr▸h0) hne,hr▸h⟩
theorem wp_region_Z {id:Nat}{a:Act}{w:World}(z:Nat)(hm:P.follows .mixedOrders=true)(hS:S w.drew)
 (h:S w.drew→wpAnyZ P .any ops Q S z ops.size (Array.replicate ops.size false) a w.drew):(Code.region id ops true).wp P Q a w:=
 wp_region_any hm (wpAny_of_Z _ _ _ _ (h hS))
end
end Go
namespace Sp
open Go.Lib (compareInt compareBytes)
structure Val where
 kind:Int
 n:Int
 s:ByteArray
instance:DecidableEq Val:=fun a b=>
 if h:a.kind=b.kind∧a.n=b.n∧a.s=b.s then .isTrue (by obtain⟨a1,a2,a3⟩:=a;obtain⟨b1,b2,b3⟩:=b;simp only at h;obtain⟨rfl,rfl,rfl⟩:=h;rfl)
 else .isFalse (fun e=>h (by subst e;exact⟨rfl,rfl,rfl⟩))
instance:Inhabited Val:=⟨⟨0,0,⟨#[]⟩⟩⟩
def nullV:Val:=⟨0,0,⟨#[]⟩⟩
structure Oft where
 v:Val
 n:Int
instance:DecidableEq Oft:=fun a b=>
 if h:a.v=b.v∧a.n=b.n then .isTrue (by obtain⟨a1,a2⟩:=a;obtain⟨b1,b2⟩:=b;simp only at h;obtain⟨rfl,rfl⟩:=h;rfl)
 else .isFalse (fun e=>h (by subst e;exact⟨rfl,rfl⟩))
instance:Inhabited Oft:=⟨⟨nullV,0⟩⟩
theorem ci_neg (a b:Int):compareInt a b= - compareInt b a:=by
 unfold compareInt
 by_cases h1:a<b
 ·rw[if_pos h1,if_neg (by omega),if_pos (by omega)]
 ·by_cases h2:b<a
  ·rw[if_neg h1,if_pos (by omega),if_pos h2];rfl
  ·rw[if_neg h1,if_neg (by omega),if_neg h2,if_neg (by omega)];rfl
theorem ci_zero {a b:Int}:compareInt a b=0↔a=b:=by
 unfold compareInt
 by_cases h1:a<b
 ·rw[if_pos h1];constructor<;>intro h<;>omega
 ·by_cases h2:a>b
  ·rw[if_neg h1,if_pos h2];constructor<;>intro h<;>omega
  ·rw[if_neg h1,if_neg h2];constructor<;>intro h<;>omega
theorem ci_lt {a b:Int}:compareInt a b<0↔a<b:=by
 unfold compareInt
 by_cases h1:a<b
 ·rw[if_pos h1];constructor<;>intro h<;>omega
 ·by_cases h2:a>b
  ·rw[if_neg h1,if_pos h2];constructor<;>intro h<;>omega
  ·rw[if_neg h1,if_neg h2];constructor<;>intro h<;>omega
section
variable {α : Type} {o : α → α → Int}
structure Tot (o:α→α→Int):Prop where
 neg:∀ a b,o a b= - o b a
 zero:∀ {a b},o a b=0→a=b
 trans:∀ {a b c},o a b<0→o b c<0→o a c<0
theorem Tot.self (h:Tot o)(a:α):o a a=0:=by have:=h.neg a a;omega
theorem Tot.le_trans (t:Tot o){a b c:α}(h:o a b≤0)(k:o b c≤0):o a c≤0:=by
 by_cases h0:o a b=0
 ·rw[t.zero h0];exact k
 ·by_cases k0:o b c=0
  ·rw[← t.zero k0];exact h
  ·have:=t.trans (a:=a) (b:=b) (c:=c) (by omega) (by omega);omega
theorem Tot.anti (t:Tot o){a b:α}(h:o a b≤0)(k:o b a≤0):a=b:=t.zero (by have:=t.neg a b;omega)
def sortO (o:α→α→Int)(l:List α):List α:=l.mergeSort (fun x y=> !(decide (o y x<0)))
theorem sort_perm (o:α→α→Int)(l:List α):(sortO o l).Perm l:=List.mergeSort_perm _ _
theorem sort_len (o:α→α→Int)(l:List α):(sortO o l).length=l.length:=(sort_perm o l).length_eq
end
end Sp
namespace Go.Proofs
open Go.Shelf
def Tryz.sortD_ren:Go.Shelf.Ren:=⟨fun|6=>55|15=>98|14=>97|28=>145|29=>146|20=>137|21=>138|22=>139|23=>140|24=>141|25=>142|26=>143|27=>144|46=>192|47=>193|48=>194|49=>195|50=>196|57=>225|n=>n,fun|22=>45|24=>65|25=>100|3=>3|39=>131|0=>0|53=>168|55=>155|4=>4|46=>162|45=>161|50=>133|5=>5|9=>9|66=>192|70=>196|76=>210|77=>211|n=>n,fun|n=>n⟩
theorem Tryz.sortD:Go.Proofs.SlLaysF0.n6 Tryz.prog Tryz.sortD_ren:={
 mixed:=by kernel_rfl
 f6:=⟨Tryz.f55.name,by decide,Tryz.func55.trans (congrArg some Kr)⟩
 f14:=⟨Tryz.f97.name,by decide,Tryz.func97.trans (congrArg some Kr)⟩
 f15:=Tryz.func98.trans (congrArg some Kr)
 f20:=⟨Tryz.f137.name,by decide,Tryz.func137.trans (congrArg some Kr)⟩
 f21:=⟨Tryz.f138.name,by decide,Tryz.func138.trans (congrArg some Kr)⟩
 f22:=⟨Tryz.f139.name,by decide,Tryz.func139.trans (congrArg some Kr)⟩
 f23:=⟨Tryz.f140.name,by decide,Tryz.func140.trans (congrArg some Kr)⟩
 f24:=⟨Tryz.f141.name,by decide,Tryz.func141.trans (congrArg some Kr)⟩
 f25:=⟨Tryz.f142.name,by decide,Tryz.func142.trans (congrArg some Kr)⟩
 f26:=⟨Tryz.f143.name,by decide,Tryz.func143.trans (congrArg some Kr)⟩
 f27:=⟨Tryz.f144.name,by decide,Tryz.func144.trans (congrArg some Kr)⟩
 f28:=Tryz.func145.trans (congrArg some Kr)
 f29:=Tryz.func146.trans (congrArg some Kr)
 f46:=⟨Tryz.f192.name,by decide,Tryz.func192.trans (congrArg some Kr)⟩
 f47:=Tryz.func193.trans (congrArg some Kr)
 f48:=Tryz.func194.trans (congrArg some Kr)
 f49:=⟨Tryz.f195.name,by decide,Tryz.func195.trans (congrArg some Kr)⟩
 f50:=⟨Tryz.f196.name,by decide,Tryz.func196.trans (congrArg some Kr)⟩
 f57:=⟨Tryz.f225.name,by decide,Tryz.func225.trans (congrArg some Kr)⟩
 t0:=Tryz.underlying0
 a0:=Tryz.isAgg0
 z0:=Tryz.sizeOf0
 v0:=Tryz.zeroValue0
 t3:=Tryz.underlying3
 a3:=Tryz.isAgg3
 z3:=Tryz.sizeOf3
 v3:=Tryz.zeroValue3
 t4:=Tryz.underlying4
 a4:=Tryz.isAgg4
 z4:=Tryz.sizeOf4
 v4:=Tryz.zeroValue4
 t5:=Tryz.underlying5
 a5:=Tryz.isAgg5
 z5:=Tryz.sizeOf5
 v5:=Tryz.zeroValue5
 t9:=Tryz.underlying9
 a9:=Tryz.isAgg9
 z9:=Tryz.sizeOf9
 v9:=Tryz.zeroValue9
 t22:=Tryz.underlying45
 a22:=Tryz.isAgg45
 z22:=Tryz.sizeOf45
 v22:=Tryz.zeroValue45
 t25:=Tryz.underlying100
 a25:=Tryz.isAgg100
 z25:=Tryz.sizeOf100
 v25:=Tryz.zeroValue100
 t39:=Tryz.underlying131
 a39:=Tryz.isAgg131
 z39:=Tryz.sizeOf131
 v39:=Tryz.zeroValue131
 t45:=Tryz.underlying161
 a45:=Tryz.isAgg161
 z45:=Tryz.sizeOf161
 v45:=Tryz.zeroValue161
 t46:=Tryz.underlying162
 a46:=Tryz.isAgg162
 z46:=Tryz.sizeOf162
 v46:=Tryz.zeroValue162
 t50:=Tryz.underlying133
 a50:=Tryz.isAgg133
 z50:=Tryz.sizeOf133
 v50:=Tryz.zeroValue133
 t53:=Tryz.underlying168
 a53:=Tryz.isAgg168
 z53:=Tryz.sizeOf168
 v53:=Tryz.zeroValue168
 t55:=Tryz.underlying155
 a55:=Tryz.isAgg155
 z55:=Tryz.sizeOf155
 v55:=Tryz.zeroValue155
 t66:=Tryz.underlying192
 a66:=Tryz.isAgg192
 z66:=Tryz.sizeOf192
 v66:=Tryz.zeroValue192
 t70:=Tryz.underlying196
 a70:=Tryz.isAgg196
 z70:=Tryz.sizeOf196
 v70:=Tryz.zeroValue196
 t76:=Tryz.underlying210
 a76:=Tryz.isAgg210
 z76:=Tryz.sizeOf210
 v76:=Tryz.zeroValue210
 t77:=Tryz.underlying211
 a77:=Tryz.isAgg211
 z77:=Tryz.sizeOf211
 v77:=Tryz.zeroValue211}
def Tryz.laysCmp_ren:Go.Shelf.Ren:=⟨fun|122=>57|215=>99|n=>n,fun|3=>3|4=>4|n=>n,fun|n=>n⟩
theorem Tryz.laysCmp:Go.Proofs.Lays.n122 Tryz.prog Tryz.laysCmp_ren:={
 mixed:=by kernel_rfl
 f122:=Tryz.func57.trans (congrArg some Kr)
 f215:=Tryz.func99.trans (congrArg some Kr)
 t3:=Tryz.underlying3
 a3:=Tryz.isAgg3
 z3:=Tryz.sizeOf3
 v3:=Tryz.zeroValue3
 t4:=Tryz.underlying4
 a4:=Tryz.isAgg4
 z4:=Tryz.sizeOf4
 v4:=Tryz.zeroValue4}
open Go.RowKit in
theorem Tryz.cmpI (x y:Int)(w:World):
 Calls Tryz.prog 57 #[x,y] w fun e w'=>e= .returned (.int .i64 (Lib.compareInt x y))∧w'=w:=Any.cmp_Compare_int Tryz.laysCmp x y w
end Go.Proofs
