import Derived.Test.YtmldoihahndcgaaGreatDoorHq00
import Derived.Test.YtmldoihahndcgaaGreatDoorHq08
import Derived.Test.YtmldoihahndcgaaGreatDoorHq01
import Derived.Laws.MakeOwn
import Derived.Test.YtmldoihahndcgaaGreatDoorHq06
import Derived.Test.YtmldoihahndcgaaGreatDoorHq09
set_option maxRecDepth 100000
set_option maxHeartbeats 16000000
set_option linter.unusedSimpArgs false
namespace Go.Proofs.YtmldoihahndcgaaGreatDoor
open Go.RowKit Go.Sort Go.Shelf
def Tb (w w':World):Prop:=∃ (q:Nat) (os:Array Obj),w'=Go.Sort.grow (w.drewN q) os
theorem Tb.refl (w:World):Tb w w:=⟨0,#[],by rw[Go.Sort.grow_empty];rfl⟩
theorem Tb.trans {u v w:World}(h:Tb u v)(k:Tb v w):Tb u w:=by
 obtain⟨q,os,rfl⟩:=h;obtain⟨b,a,rfl⟩:=k;refine⟨q+b,os++a,?_⟩
 show Go.Sort.grow (Go.Sort.grow ((u.drewN q).drewN b) os) a=_
 rw[Go.Sort.grow_grow,World.drewN_drewN]
theorem Tb.alloc {u v:World}(h:Tb u v)(o:Obj):Tb u (v.alloc o):=h.trans ⟨0,#[o],by rw[Go.Sort.alloc_eq_grow];rfl⟩
section
variable {α : Type} {enc : α → List Value} {k : Nat} {e : TypeId} {B g c : Nat} {w : World} {l : List α} [Inhabited α]
theorem Y9 (b:∀ x,(enc x).length=k)(l:List α)(t:Nat)(c:t<l.length*k):(l.flatMap enc)[t]? =some (flatK enc k l.toArray)[t]! :=by
 have a:0<k:=by rcases Nat.eq_zero_or_pos k with h|h;(· subst h;omega);(· exact h)
 have d:t/k<l.length:=by rw[Nat.div_lt_iff_lt_mul a];exact c
 have e:t%k<k:=Nat.mod_lt _ a;rw[get_flatK enc k l.toArray t (by simpa using c)];have f:t=t/k*k+t%k:=by rw[Nat.mul_comm];exact(Nat.div_add_mod t k).symm
 conv=>lhs;rw[f,Hu b l (t/k) (t%k) d e]
 have g:l.toArray[t/k]! =l[t/k]:=by simp[d]
 rw[g,List.getElem!_eq_getElem?_getD,List.getElem?_eq_getElem (by rw[b];exact e)]
 rfl
theorem iR (d:∀ x,(enc x).length=k)(f:E7 enc k e B w (.slice (some ⟨g,0,none⟩) l.length c) l):HoldsK enc k w g 0 l.toArray:=by
 obtain⟨cur,i,m,b,n,o,p,h⟩:=Ia f;intro j a;rw[size_flatK,List.size_toArray]at a;refine⟨?_,Ao b _⟩;rw[Aa b,Nat.zero_add,h j a,Y9 d l j a]
 rfl
theorem cI (d:∀ x,(enc x).length=k)(i:E7 enc k e B w (.slice (some ⟨g,0,none⟩) l.length c) l)(a:List α)(b:a.length=l.length)(n:Nat)(os:Array Obj):
 E7 enc k e B (sortWorldK enc k w g 0 n a.toArray os) (.slice (some ⟨g,0,none⟩) l.length c) a∧Below B w (sortWorldK enc k w g 0 n a.toArray os):=by
 obtain⟨cur,m,o,p,f,q,r,u⟩:=Ia i;have s:l.length*k≤c*k:=Nat.mul_le_mul_right _ f;have hblk:(sortWorldK enc k w g 0 n a.toArray os).heap[g]? =some (.cells (putCells id 0 (flatK enc k a.toArray) cur) e (0,0)):=by
  show(w.heap.modify g _++os)[g]? =_
  rw[Array.getElem?_append_left (by rw[Array.size_modify];exact o),Array.getElem?_modify,if_pos rfl,p]
  rfl
 refine⟨?_,⟨rfl,rfl,rfl,?_,fun j v=>?_⟩⟩
 ·rw[← b]
  refine cA d m hblk (by rw[b];exact f) q (by unfold putCells;rw[Array.size_mapIdx];exact r) (fun t h=>?_);rw[b]at h;unfold putCells;rw[Array.getElem?_mapIdx,Array.getElem?_eq_getElem (by omega),Option.map_some,size_flatK,List.size_toArray,if_pos ⟨Nat.zero_le _,by rw[b];omega⟩,Y9 d a t (by rw[b];exact h)]
  rfl
 ·show w.heap.size≤(w.heap.modify g _++os).size
  rw[Array.size_append,Array.size_modify];omega
 ·show(w.heap.modify g _++os)[j]? =_
  rw[Array.getElem?_append_left (by rw[Array.size_modify];omega),Array.getElem?_modify,if_neg (by omega)]
end
theorem qS {α:Type}{o:α→α→Int}(t:Sp.Xk o):SWO (ltOf o):=by
 refine⟨fun x=>by simp[ltOf,t.self],fun x y z d e=>?_,fun x y z d e=>?_⟩
 ·simp only[ltOf,decide_eq_true_eq]at*
  exact t.trans d e
 ·simp only[ltOf,decide_eq_false_iff_not]at*
  have f:=t.neg x y;have g:=t.neg y z;have h:=t.neg x z;have:=t.le_trans (a:=z) (b:=y) (c:=x) (by omega) (by omega);omega
theorem tT {α:Type}{o:α→α→Int}(t:Sp.Xk o)(x y:α)(a:(ltOf o) x y=false)(b:(ltOf o) y x=false):x=y:=by
 simp only[ltOf,decide_eq_false_iff_not]at*;exact t.uY (by have:=t.neg x y;omega) (by have:=t.neg x y;omega)
theorem iS {α:Type}{enc:α→List Value}{k:Nat}{e:TypeId}{B g c:Nat}{w:World}{l:List α}(b:∀ x,(enc x).length=k)(h:E7 enc k e B w (.slice (some ⟨g,0,none⟩) l.length c) l)(j:Nat)(d:j<l.length):w.rangeAt g (j*k) (enc l[j]):=by
 obtain⟨cur,p,q,m,r,s,t,n⟩:=Ia h;intro i v f;have a:i<k:=by have:=(List.getElem?_eq_some_iff.1 f).1;rw[b]at this;exact this
 have o:j*k+k≤l.length*k:=by have:=Nat.mul_le_mul_right k (show j+1≤l.length from d);rwa[Nat.add_mul,Nat.one_mul]at this
 rw[Aa m,n _ (by omega),Hu b l j i d a];exact f
theorem nN {k:Nat}{e:TypeId}{B n:Nat}{w:World}{v:Value}{xs:List Value}(h:w.ownsRow B e k v n xs)(b:0<n):∃ g c,v= .slice (some ⟨g,0,none⟩) n c:=by
 rcases h.2 with⟨_,d⟩|⟨g,cap,cur,a,_⟩
 ·omega
 ·exact⟨g,cap,a⟩
theorem qT {α:Type}{enc:α→List Value}{k:Nat}{e:TypeId}{B:Nat}{w:World}{v:Value}{l:List α}{x:α}{j:Nat}(c:j≤l.length)(h:w.ownsRow B e k v (j+1+(l.length-j)) ((l.take j).flatMap enc++enc x++(l.drop j).flatMap enc)):E7 enc k e B w v (l.take j++x::l.drop j):=by
 have a:(l.take j++x::l.drop j).length=j+1+(l.length-j):=by rw[List.length_append,List.length_take,List.length_cons,List.length_drop];omega
 have b:(l.take j++x::l.drop j).flatMap enc=(l.take j).flatMap enc++enc x++(l.drop j).flatMap enc:=by rw[List.flatMap_append,List.flatMap_cons,List.append_assoc]
 unfold E7;rw[a,b];exact h
theorem cJ {α:Type}{enc:α→List Value}{k:Nat}{w:World}{b c:Nat}{l:List α}(a:∀ x,(enc x).length=k)(h:Reads w (some ⟨b,0,none⟩) c l.length (l.flatMap enc))(j:Nat)(d:j≤l.length)(r:l.length≤c):Reads w (if c=j then(some ⟨b,0,none⟩:Option Addr)else some ⟨b,j*k,none⟩) (c-j) (l.length-j) ((l.drop j).flatMap enc):=fun s=>by
 obtain⟨u,off,e,y,f,g⟩:=h (by omega)
 injection e with e
 injection e with i m
 subst i m;refine⟨b,j*k,by rw[if_neg (by omega)],by omega,f,fun t v n=>?_⟩;have o:l.flatMap enc=(l.take j).flatMap enc++(l.drop j).flatMap enc:=by rw[← List.flatMap_append,List.take_append_drop]
 have p:((l.take j).flatMap enc).length=j*k:=by rw[Di a,List.length_take,Nat.min_eq_left d]
 have q:=g (j*k+t) v (by rw[o,List.getElem?_append_right (by omega),p,Nat.add_sub_cancel_left];exact n)
 rwa[Nat.zero_add]at q
theorem cK {α:Type}{enc:α→List Value}{k:Nat}{w:World}{A:Option Addr}{c:Nat}{l:List α}(_hk:∀ x,(enc x).length=k)(h:Reads w A c l.length (l.flatMap enc))(m:Nat)(i:m≤l.length):Reads w A c m ((l.take m).flatMap enc):=fun n=>by
 obtain⟨b,off,e,o,d,f⟩:=h (by omega);refine⟨b,off,e,by omega,d,fun j v a=>f j v ?_⟩;have g:l.flatMap enc=(l.take m).flatMap enc++(l.drop m).flatMap enc:=by rw[← List.flatMap_append,List.take_append_drop]
 rw[g,List.getElem?_append_left (List.getElem?_eq_some_iff.1 a).1];exact a
theorem nO:Sp.Xk Lib.compareInt:=⟨Sp.kT,fun h=>Sp.pK.1 h,fun h k=>by rw[Sp.kU]at*;omega⟩
def fB (f:Fr):Bool:=decide (f.bytes.size≠0)&&decide (f.rc≠0)
def Dt (fs:List Fr):List Int:=(fs.filter fB).map (·.page)
def iT (fs:List Fr)(p:Int):Int:=((fs.find? (fun f=>fB f&&decide (f.page=p))).map (·.rc)).getD 0
def Wk (rf:Int→Int)(p:Int):List Value:=[.int .i64 p,.int .i64 (rf p)]
theorem J1 (a:Int→Int)(p:Int):(Wk a p).length=2:=rfl
theorem Rh (b:Int→Int)(p:Int):∀ u∈Wk b p,u.oneCell'=true:=by
 intro u a;simp only[Wk,List.mem_cons,List.not_mem_nil,or_false]at a;rcases a with rfl|rfl<;>rfl
theorem fC (a:Int→Int)(l:List Int):∀ u∈l.flatMap (Wk a),u.oneCell'=true:=by
 intro u b;obtain⟨v,_,h⟩:=List.mem_flatMap.1 b;exact Rh a v u h
def K4 (fs:List Fr):List Rc.C9:=(Sp.Eo Lib.compareInt (Dt fs)).map (fun p=>⟨p,iT fs p⟩)
theorem L6 (fs:List Fr):(K4 fs).length=(Sp.Eo Lib.compareInt (Dt fs)).length:=by unfold K4;rw[List.length_map]
theorem U2 (fs:List Fr):(K4 fs).flatMap pX=(Sp.Eo Lib.compareInt (Dt fs)).flatMap (Wk (iT fs)):=by unfold K4;rw[List.flatMap_map];rfl
theorem Mr {f:Fr}:fB f=true↔f.bytes≠⟨#[]⟩∧f.rc≠0:=by
 unfold fB;rw[Bool.and_eq_true,decide_eq_true_iff,decide_eq_true_iff]
 constructor
 ·rintro⟨a,b⟩
  exact⟨fun h=>a (by rw[h];rfl),b⟩
 ·rintro⟨a,b⟩
  exact⟨fun h=>a (ByteArray.ext (Array.eq_empty_of_size_eq_zero h)),b⟩
theorem sT {fs:List Fr}(c:∀ i j (hi:i<fs.length) (hj:j<fs.length),i≠j→Full fs[i]→Full fs[j]→fs[i].page≠fs[j].page)(i:Nat)(hi:i<fs.length)(e:fB fs[i]=true):iT fs fs[i].page=fs[i].rc:=by
 unfold iT
 cases d:fs.find? (fun f=>fB f&&decide (f.page=fs[i].page))with
 |none=>
  have a:=List.find?_eq_none.1 d fs[i] (List.getElem_mem hi);rw[e]at a
  simp at a
 |some x=>
  have a:=List.find?_some d;have g:=List.mem_of_find?_eq_some d;rw[Bool.and_eq_true,decide_eq_true_iff]at a;obtain⟨j,hj,rfl⟩:=List.getElem_of_mem g
  by_cases b:i=j
  ·subst b;rfl
  ·exact absurd a.2.symm (c i j hi hj b (Mr.1 e).1 (Mr.1 a.1).1)
theorem Nt (fs:List Fr)(k:Nat)(a:k<fs.length):(fB fs[k]=true→Dt (fs.take (k+1))=Dt (fs.take k)++[fs[k].page])∧(fB fs[k]=false→Dt (fs.take (k+1))=Dt (fs.take k)):=by
 unfold Dt;rw[List.take_succ_eq_append_getElem a,List.filter_append,List.map_append];exact⟨fun h=>by rw[List.filter_cons_of_pos h];rfl,fun h=>by rw[List.filter_cons_of_neg (by rw[h];simp)];simp⟩
theorem Ms (fs:List Fr)(k:Nat):(Dt (fs.take k)).length≤k:=by
 unfold Dt;rw[List.length_map];exact Nat.le_trans (List.length_filter_le _ _) (by rw[List.length_take];omega)
theorem nP (fs:List Fr)(k:Nat)(b:k<fs.length)(c:fB fs[k]=true)(j:Nat)(d:∀ t (ht:t<(Sp.Eo Lib.compareInt (Dt (fs.take k))).length),t<j→(Sp.Eo Lib.compareInt (Dt (fs.take k)))[t]<fs[k].page)(e:∀ ht:j<(Sp.Eo Lib.compareInt (Dt (fs.take k))).length,¬ (Sp.Eo Lib.compareInt (Dt (fs.take k)))[j]<fs[k].page):
 Sp.Eo Lib.compareInt (Dt (fs.take (k+1)))=(Sp.Eo Lib.compareInt (Dt (fs.take k))).take j++fs[k].page::(Sp.Eo Lib.compareInt (Dt (fs.take k))).drop j:=by
 obtain⟨f,g⟩:=nO.put (nO.eB (Dt (fs.take k))) (x:=fs[k].page) (k:=j) (fun t ht a=>by have:=Sp.kU.2 (d t ht a);omega) (fun ht=>by
  have i:=e ht;have l:¬ Lib.compareInt (Sp.Eo Lib.compareInt (Dt (fs.take k)))[j] fs[k].page<0:=fun h=>i (Sp.kU.1 h);have:=Sp.kT (Sp.Eo Lib.compareInt (Dt (fs.take k)))[j] fs[k].page;omega)
 refine nO.pL (g.trans ?_) f;rw[(Nt fs k b).1 c];exact((Sp.O8 Lib.compareInt (Dt (fs.take k))).cons fs[k].page).trans (List.perm_append_singleton fs[k].page (Dt (fs.take k))).symm
def Za (fs:List Fr)(w:World)(e:Ending)(w':World):Prop:=∃ A c,e= .returned (.slice A (K4 fs).length c)∧lW w' A c (K4 fs)∧C4 0 w' 94 A∧Bw w w'
theorem cL (f:Fr)(w:World):Cq 124 #[.agg (Cg f)] w fun e w'=>∃ q:Bool,e= .returned (.bool q)∧(q=true↔f.bytes=⟨#[]⟩)∧Bw w w':=by
 by_cases c:f.bytes=⟨#[]⟩
 ·have g:=Mn
  go_enter Tryz.func124,Tryz.ntmps124;go_upto_region 1 with fail;have b:=Tq w (Cg f) 116;obtain⟨d,a⟩:=Dr b;rw[← a]at b ⊢;clear a;have i:=show d.cell? ⟨w.heap.size,1,none⟩=some (.string ⟨#[]⟩)from(by rw[Aa b.out.Ag,← c];rfl);have j:=Hq c;clear c;go_wp2_with fail;go_ret;exact⟨true,by simp,⟨fun _=>j.out,fun _=>rfl⟩,b.out.below⟩
 ·obtain⟨k,l,m⟩:=Pt c
  go_enter Tryz.func124,Tryz.ntmps124;go_upto_region 1 with fail;have b:=Tq w (Cg f) 116;obtain⟨d,a⟩:=Dr b;rw[← a]at b ⊢;clear a;have i:=show d.cell? ⟨w.heap.size,1,none⟩=some (.string f.bytes)from(by rw[Aa b.out.Ag];rfl);go_wp2_with fail;go_ret;exact⟨false,by simp,⟨(fun h=>by cases h),fun h=>absurd h c⟩,b.out.below⟩
theorem nQ (c:Int→Int)(a b:Int)(w:World):Cq 126 #[.agg (Wk c a).toArray,.agg (Wk c b).toArray] w fun e w'=>e= .returned (.int .i64 (Lib.compareInt a b))∧Tb w w':=by
 show Cq 126 #[.agg #[a,.int .i64 (c a)],.agg #[b,.int .i64 (c b)]] w _
 have g:=Hq (((Tb.refl w).alloc (.cells #[a,.int .i64 (c a)] 94)).alloc (.cells #[b,.int .i64 (c b)] 94));go_enter Tryz.func126,Tryz.ntmps126;go_upto_region 1 with fail;have f:=Il w #[a,.int .i64 (c a)] 94 #[b,.int .i64 (c b)] 94;obtain⟨h,d⟩:=Dr f;rw[← d]at f g ⊢;clear d;have i:=show h.cell? ⟨w.heap.size,0,none⟩=some (.int .i64 a)from by rw[Aa f.out.Ag];rfl
 have j:=show h.cell? ⟨w.heap.size+1,0,none⟩=some (.int .i64 b)from by rw[Aa f.out.Ah];rfl
 go_wp2_with(go_at_call 127;(with_reducible refine(Tryz.cmpI _ _ _).mono ?_);rintro e k ⟨rfl,rfl⟩)
 go_ret;exact⟨by simp,g.out⟩
theorem iU (a:Int→Int)(l:List Int)(q:l.length≤1000000)(B:Nat)(v:Value)(w:World)(b:E7 (Wk a) 2 94 B w v l)(r:B≤w.heap.size):
 Cq 125 #[v,.func (.func 126) #[] #[]] w fun e w'=>e= .returned (.tuple #[])∧E7 (Wk a) 2 94 B w' v (Sp.Eo Lib.compareInt l)∧Below B w w':=by
 have j:=b.2;rcases j with⟨rfl,o⟩|⟨g,cap,cur,rfl,_⟩
 ·have c:l=[]:=List.eq_nil_of_length_eq_zero o
  subst c;refine(AnyF.slices_SortFunc_none Tryz.sortD none 0 (.func (.func 126) #[] #[]) w).mono ?_;rintro e w' ⟨rfl,rfl⟩;exact⟨rfl,by simpa[Sp.Eo]using b,Below.refl _ _⟩
 ·have hO:=iR (k:=2) (J1 a) b
  obtain⟨i,_,p,s,_⟩:=Ia b;have h:=AnyQ.slices_SortFunc_total Tryz.sortD 2 Tryz.isAgg94 Tryz.sizeOf94 (Wk a) (J1 a) (Rh a) Lib.compareInt (qS nO) 126 #[] g 0 cap l.toArray w (enters_of Tryz.func126 Kr rfl) (fun m os t d x y=>(nQ a x y _).mono (fun e w' h=>⟨h.1,h.2⟩)) hO p (by simp;omega) (tT nO);simp only[List.size_toArray]at h;refine Calls.mono h ?_;rintro e w' ⟨rfl,n,os,rfl⟩;have d:=cI (J1 a) b (Sp.Eo Lib.compareInt l) (Sp.Jd _ _) n os;refine⟨rfl,?_,d.2⟩
  show World.ownsRow _ B 94 2 _ (Sp.Eo Lib.compareInt l).length _
  rw[Sp.Jd];have f:=d.1;unfold E7 at f;rw[Sp.Jd]at f;exact f
theorem Ql (s:Tx.St)(p:SP)(fs:List Fr)(X:∀ i j (hi:i<fs.length) (hj:j<fs.length),i≠j→Full fs[i]→Full fs[j]→fs[i].page≠fs[j].page)(E:fs.length≤64)(w:World)(h:An w s p fs):
 Cq 52 #[Af s p] w (Za fs w):=by
 have aj:=Hq h.fn;have HR:=Hq h.fr;have I:=Hq E;have Y:=Hq (U2 fs);have Z:=Hq (L6 fs);obtain⟨u,J⟩:=ex (iT fs);have ak:=Hq (show ∀ i (hi:i<fs.length),fB fs[i]=true→u fs[i].page=fs[i].rc from fun i hi t=>by rw[J];exact sT X i hi t);rw[← J]at Y;clear h X E J;go_enter Tryz.func52,Tryz.ntmps52;go_upto_region 1 with fail;have W:=Tq w (Ai s p) 36;obtain⟨G,a1⟩:=Dr W;rw[← a1]at W ⊢;clear a1;have hc:=show G.cell? ⟨w.heap.size,11,none⟩=some (.slice p.F fs.length p.fc)from by rw[Aa W.out.Ag,← aj.out];rfl
 have a6:=Hq (show w.heap.size<G.heap.size from W.out.lt (i:=0) (by simp));go_wp2_with fail;clear hc
 go_loopw [3,10] (fun v i wr=>∃ k:Nat,k≤fs.length∧i= .int .i64 k∧E7 (Wk u) 2 94 G.heap.size wr v (Dt (fs.take k))∧Dm w.heap.size w [((Ai s p),36)] wr∧G.heap.size≤wr.heap.size) (fun _ i _=>fs.length-(intOf i).toNat)
 case atStart=>exact⟨0,Nat.zero_le _,rfl,Rp _ _ _ _,W.out,Nat.le_refl _⟩
 case round=>
  clear W;obtain⟨k,hk,rfl,ho,a7,a8⟩:=hrel;have HO:=Hq ho;have y:=Hq a7;have L:=Hq a8;clear ho a7 a8;have ay:(0:Int)≤(k:Int):=by omega
  by_cases N:k<fs.length
  ·obtain⟨b,off,aa,al,an,c⟩:=Bi Cc (HR.out.below y.out.below) N
   have az:(k:Int)<(fs.length:Int):=(by omega);have b0:IntKind.i64.wrap ((k:Int)+1)=(k:Int)+1:=IntWalk.i64_in _ (by have:=I.out;omega);have d:=Hq (Nt fs k N);have z:=Hq (ak.out k N);have ao:(Dt (fs.take k)).length≤64:=(by have:=I.out;have:=Ms fs k;omega);obtain⟨S2,O⟩:=ex (Dt (fs.take (k+1)));rw[← O]at d;have P:=Hq O;clear O;generalize Dt (fs.take k)=S at d ao HO ⊢;generalize fs[k]=f at d z c;have ad:=Hq (show wr.rangeAt b (off+k*5) (F4 f)from c);rw[aa];clear c al an aa;obtain⟨OA,oc,rfl⟩:=Jb HO.out
   go_upto_region 5 with(first
    |(refine Bt Kr fun K hK=>wp_load_mid 116 (.tmp 12) rfl b (off+k*5) rfl (F4 f) _ ad.out Cw Kr Kr (hK _ _ ?_))
    |with_reducible refine sN (Cg f) ?_)
   have A:=Ad wr (.cells (Cg f) 116);have H5:=Hq (y.out.step A);have g:=Hq (heap_alloc_new wr (.cells (Cg f) 116));have B:=Hq (Cm HO.out A);have C:=Hq (Nat.le_trans L.out A.size);obtain⟨gf,Q⟩:=ex wr.heap.size;obtain⟨w5,D⟩:=ex (wr.alloc (.cells (Cg f) 116));rw[← Q,← D]at g;rw[← D]at H5 B C;rw[← D,← Q];clear D Q A y HO ad L
   try simp only[Act.put]
   have R:=Hq (cL f w5)
   by_cases t:fB f=true
   ·obtain⟨ae,af⟩:=Mr.1 t
    have b1:(f.rc != 0)=true:=bne_iff_ne.2 af;have HE:=Hq (d.out.1 t);have ag:=Hq (z.out t);have aq:=Hq ae;clear d z t ae af;obtain⟨pg,T⟩:=ex f.page;have ar:=Hq T;rw[← T]at HE ag;clear T
    go_upto_region 6 with(first
     |with_reducible refine lL g.out Cw ?_
     |(go_at_call 124;(refine R.out.mono ?_);rintro e m ⟨q,rfl,H,a⟩;obtain rfl:q=false:=(by cases q with|true=>exact absurd (H.1 rfl) aq.out|false=>rfl);clear H;have n:=Hq (Ac g.out a);have H6:=Hq (H5.out.step a);have o:=Hq (Cm B.out a);have l:=Hq (Nat.le_trans C.out a.size);have ah:=show m.cell? ⟨gf,4,none⟩=some (.int .i64 f.rc)from(by rw[Aa n.out];rfl)))
    clear ah;have b2:=show m.cell? ⟨gf,0,none⟩=some (.int .i64 pg)from(by rw[Aa n.out,ar.out];rfl);have b3:=show m.cell? ⟨gf,4,none⟩=some (.int .i64 (u pg))from by rw[Aa n.out,ag.out];rfl
    go_wp2_with(at_builtin;refine Le Kr (.tmp 22) (.tmp 28) 86 94 kV Np rfl (by omega) (by omega) rfl G.heap.size _ S.length (S.flatMap (Wk u)) rfl (Cm o.out (Ad _ _)) m.heap.size (Wk u pg) 94 rfl (heap_alloc_new m _) rfl (Rh u pg) (by omega) (Nat.le_trans l.out (Ad m _).size) ?_;intro v7 w7 au b4 ai)
    go_roundw
    case rel=>exact⟨k+1,by omega,by go_num,by rw[← P.out,HE.out];exact E7.push (enc:=Wk u) (x:=pg) au,(H6.out.step (Ad m _)).under (M:=G.heap.size) (by have:=a6.out;simp;omega) ai,Nat.le_trans (Nat.le_trans l.out (Ad m (.cells #[pg,.int .i64 (u pg)] 94)).size) ai.size⟩
    case measure=>simp[intOf];omega
   ·have HE:=Hq (d.out.2 (Bool.eq_false_iff.2 t))
    clear d z
    by_cases r:f.bytes=⟨#[]⟩
    ·have U:=Hq r
     clear t r
     go_wp2_with(first
      |with_reducible refine lL g.out Cw ?_
      |(go_at_call 124;(refine R.out.mono ?_);rintro e m ⟨q,rfl,H,a⟩;obtain rfl:q=true:=H.2 U.out;clear H;have H6:=Hq (H5.out.step a);have o:=Hq (Cm B.out a);have l:=Hq (Nat.le_trans C.out a.size)))
     go_roundw
     case rel=>exact⟨k+1,by omega,by go_num,by rw[← P.out,HE.out];exact o.out,H6.out,l.out⟩
     case measure=>simp[intOf];omega
    ·have av:=Hq (show f.rc=0 from by
      by_cases hr:f.rc=0
      ·exact hr
      ·exact absurd (Mr.2 ⟨r,hr⟩) t)
     have U:=Hq r;clear t r
     go_wp2_with(first
      |with_reducible refine lL g.out Cw ?_
      |(go_at_call 124;(refine R.out.mono ?_);rintro e m ⟨q,rfl,H,a⟩;obtain rfl:q=false:=(by cases q with|true=>exact absurd (H.1 rfl) U.out|false=>rfl);clear H;have H6:=Hq (H5.out.step a);have o:=Hq (Cm B.out a);have l:=Hq (Nat.le_trans C.out a.size);have n:=Hq (Ac g.out a);have ah:=show m.cell? ⟨gf,4,none⟩=some (.int .i64 0)from(by rw[Aa n.out,← av.out];rfl)))
     go_roundw
     case rel=>exact⟨k+1,by omega,by go_num,by rw[← P.out,HE.out];exact o.out,H6.out,l.out⟩
     case measure=>simp[intOf];omega
  ·obtain rfl:k=fs.length:=by omega
   have ho:=HO.out;rw[List.take_length]at ho;have aw:(Dt fs).length≤1000000:=by have:=Ms fs fs.length;rw[List.take_length]at this;have:=I.out;omega
   go_wp2_with(go_at_call 125;refine(iU u (Dt fs) aw G.heap.size _ _ ho L.out).mono ?_;rintro e w8 ⟨rfl,V,ax⟩)
   go_ret;obtain⟨A8,c8,rfl⟩:=Jb V;refine⟨A8,c8,by rw[Z.out];rfl,?_,(C4.own V).mono (Nat.zero_le _),(y.out.under (M:=G.heap.size) (by have:=a6.out;simp;omega) ax).below⟩
   show Reads _ _ _ (K4 fs).length ((K4 fs).flatMap pX)
   rw[Z.out,Y.out];exact Dq V
open Sc
noncomputable def Ou (s0:Tx.St) (fs0:List Fr):List Int→Tx.St→List Fr→Px
 |[],s,fs=>⟨s,fs,0⟩
 |p::l,s,fs=>if(Df s fs p).e=0 then Ou s0 fs0 l (Df s fs p).s (Df s fs p).fs else De s0 fs0 (Df s fs p)
noncomputable def Qz (s:Tx.St) (fs:List Fr):Px:=Ou s fs ((K4 fs).map (·.page)) s fs
theorem Wf.Ou {N n B:Nat}{s0:Tx.St}{fs0:List Fr}(h0:Wf N n B s0 fs0):∀ (l:List Int) (s:Tx.St) (fs:List Fr),Wf N n B s fs→fs.length=fs0.length→Wf N n B (Ou s0 fs0 l s fs).s (Ou s0 fs0 l s fs).fs∧(Ou s0 fs0 l s fs).fs.length=fs0.length
 |[],_,_,h,hl=>⟨h,hl⟩
 |p::l,s,fs,h,hl=>by
  obtain⟨h1,h2⟩:=h.eY p
  show Wf N n B (if _ then _ else _:Px).s (if _ then _ else _:Px).fs∧(if _ then _ else _:Px).fs.length=_
  split
  ·exact Wf.Ou h0 l _ _ h1 (h2.trans hl)
  ·exact h0.back h1 (h2.trans hl)
theorem Wf.all {N n B:Nat}{s:Tx.St}{fs:List Fr}(h:Wf N n B s fs):Wf N n B (Qz s fs).s (Qz s fs).fs∧(Qz s fs).fs.length=fs.length:=h.Ou _ _ _ h rfl
theorem Qm {N n B:Nat}(s:Tx.St)(p:SP)(fs:List Fr)(K:Wf N n B s fs)(pg:Int)(w:World)(h:An w s p fs):
 Cq 109 #[Af s p,pg] w (Bk (Df s fs pg) w):=by
 have P:=K.nf;have R:=K.zp;have f:=Hq (fun W=>L5 s p n K.zp pg W);have D:=Hq (fun W (r:Bw w W)=>Mo s p fs (by omega) pg W (h.below r));have v:=Hq (fun k (hk:k<fs.length) W (r:Bw w W)=>Qj s p fs K k hk W (h.below r));have HP:=Hq h;obtain⟨X,L⟩:=ex (Df s fs pg);rw[← L];have i:=Hq (fun W (r:Bw w W) (e:Int)=>show X=⟨s,fs,e⟩→Bk X w (.returned (.tuple #[Af s p,e])) W from fun he=>by rw[he];exact⟨p,rfl,h.below r,r⟩);have S:=Hq (fun(Y:Px) (he:X=Y) w' (q:SP) (hp:An w' Y.s q Y.fs) (r:Bw w w')=>show Bk X w (.returned (.tuple #[Af Y.s q,Y.e])) w' from by rw[he];exact⟨q,rfl,hp,r⟩)
 by_cases b:0≤pg∧pg<(n:Int)
 ·rw[decide_eq_true b]at f
  have M:Gh s pg:=⟨b.1,by omega⟩;have E:=Hq (fun(ha:Jl fs pg=none)=>show X=⟨s,fs,0⟩from by rw[L];unfold Df;rw[if_neg (fun O=>O M),ha]);have F:=Hq (fun k (ha:Jl fs pg=some k)=>show X=De s fs (Cy s fs k)from by rw[L];unfold Df;rw[if_neg (fun O=>O M),ha]);clear L K M h P R b;generalize Bk X w=Q at i S ⊢;go_enter Tryz.func109,Tryz.ntmps109;go_upto_region 1 with fail;have u:=Il w (Ai s p) 36 #[(),(),(),'s',(),false,(),(),(),(),"",'s',(),'s',()] 36;obtain⟨W0,l⟩:=Dr u;rw[← l]at u ⊢;clear l
  go_upto_region 3 with(first|with_reducible refine lL u.out.Ag Ak ?_|(go_at_call 145;refine(f.out _).mono ?_;rintro e w1 ⟨rfl,x⟩;have H1:=Hq (u.out.step x)))
  go_upto_region 4 with(first|with_reducible refine lL H1.out.Ag Ak ?_|(go_at_call 50;refine(D.out _ H1.out.below).mono ?_;rintro e w2 ⟨kk,rfl,hq,T⟩;have A:=Hq (H1.out.step T)))
  clear x T u H1 f D;rcases hq with⟨rfl,hq⟩|⟨k,hk,rfl,U,V⟩
  ·have ad:(-1:Int)<0:=by decide
   have a:=Hq (E.out (Ik hq));clear hq v F E
   go_wp2_with(first|with_reducible refine lL A.out.Ag Ak ?_|with_reducible refine lS (Ai s p) A.out.Ah ?_)
   refine rT2 () A.out.Ah Ak ?_;exact i.out _ (A.out.row 1 (Ai s p) _ rfl).below 0 a.out
  ·have ae:¬ (k:Int)<0:=by omega
   have af:(k:Int)<(fs.length:Int):=(by omega);have m:=Hq (F.out k (Hc hk U fun j hj a8=>V j a8));have G:=Hq (fun W r=>v.out k hk W r);clear U V F E v;generalize Cy s fs k=Y at m G;obtain⟨c,aa,o⟩:=Y
   go_upto_region 7 with(first
    |with_reducible refine lL A.out.Ag Ak ?_
    |(go_at_call 181;refine(G.out _ A.out.below).mono ?_;rintro e Z ⟨q,rfl,a1,H⟩)
    |with_reducible refine sN (Ai c q) ?_)
   have a6:=H.trans ((Ad Z (.cells (Ai c q) 36)).mono H.size);have H5:=Hq (A.out.step a6);have I:=Hq (heap_alloc_new Z (.cells (Ai c q) 36));have a7:=Hq (a1.below (Ad Z (.cells (Ai c q) 36)));obtain⟨g,hg⟩:=ex Z.heap.size;obtain⟨w5,y⟩:=ex (Z.alloc (.cells (Ai c q) 36));rw[← hg,← y]at I;rw[← y]at H5 a7;rw[← y,← hg];clear y hg H a6 A G a1
   try simp only[Act.put]
   by_cases d:o=0∨o=20
   ·have J:=Hq (fun W=>show Cr 149 #[Af s p,Af c q,o] W (Af c q) from by
     have h0:=Ga s p c q o W;rw[if_pos d]at h0;exact h0)
    have a:=Hq (show X=⟨c,aa,o⟩from by rw[m.out];unfold De;rw[if_pos d]);clear d m
    go_wp2_with(first
     |with_reducible refine lL H5.out.Ag Ak ?_
     |with_reducible refine lL I.out Ak ?_
     |(go_at_call 149;refine(J.out _).mono ?_;rintro e w6 ⟨rfl,z⟩;have C:=Hq (H5.out.step z))
     |with_reducible refine lS (Ai c q) C.out.Ah ?_)
    refine rT2 o C.out.Ah Ak ?_;exact S.out _ a.out _ q ((a7.out.below z).other (t:=36) C.out.Ah (by decide) (by decide) (by decide) _) (C.out.row 1 (Ai c q) _ rfl).below
   ·have J:=Hq (fun W=>show Cr 149 #[Af s p,Af c q,o] W (Af s p) from by
     have h0:=Ga s p c q o W;rw[if_neg d]at h0;exact h0)
    have a:=Hq (show X=⟨s,fs,o⟩from by rw[m.out];unfold De;rw[if_neg d]);clear d m
    go_wp2_with(first
     |with_reducible refine lL H5.out.Ag Ak ?_
     |with_reducible refine lL I.out Ak ?_
     |(go_at_call 149;refine(J.out _).mono ?_;rintro e w6 ⟨rfl,z⟩;have C:=Hq (H5.out.step z))
     |with_reducible refine lS (Ai s p) C.out.Ah ?_)
    refine rT2 o C.out.Ah Ak ?_;exact i.out _ (C.out.row 1 (Ai s p) _ rfl).below o a.out
 ·rw[decide_eq_false b]at f
  have M:¬ Gh s pg:=fun O=>b ⟨O.1,by have:=O.2;omega⟩;have a:=Hq (show X=⟨s,fs,1⟩from by rw[L];unfold Df;rw[if_pos M]);clear h L K M b P R D v HP;generalize Bk X w=Q at i ⊢;go_enter Tryz.func109,Tryz.ntmps109;go_upto_region 1 with fail;have u:=Il w (Ai s p) 36 #[(),(),(),'s',(),false,(),(),(),(),"",'s',(),'s',()] 36;obtain⟨W0,l⟩:=Dr u;rw[← l]at u ⊢;clear l
  go_upto_region 2 with(first|with_reducible refine lL u.out.Ag Ak ?_|(go_at_call 145;refine(f.out _).mono ?_;rintro e w1 ⟨rfl,x⟩;have H1:=Hq (u.out.step x)))
  go_wp2_with(first|with_reducible refine lL H1.out.Ag Ak ?_|with_reducible refine lS (Ai s p) H1.out.Ah ?_)
  refine rT2 (.int .i64 1) H1.out.Ah Ak ?_;exact i.out _ (H1.out.row 1 (Ai s p) _ rfl).below 1 a.out
theorem iV {N n B:Nat}(s:Tx.St)(p:SP)(fs:List Fr)(hW:Wf N n B s fs)(w:World)(h:An w s p fs):
 Cq 110 #[Af s p] w (Bk (Qz s fs) w):=by
 have bb:=hW.nf;have ao:=Hq (fun W (hb:Bw w W)=>Ql s p fs hW.ds (by omega) W (h.below hb));have HP:=Hq h;obtain⟨X,hX⟩:=ex (Qz s fs);rw[← hX];have aq:=Hq (fun W (hb:Bw w W) (e:Int)=>show X=⟨s,fs,e⟩→Bk X w (.returned (.tuple #[Af s p,e])) W from fun he=>by rw[he];exact⟨p,rfl,h.below hb,hb⟩);have a8:=Hq (fun(Y:Px) (he:X=Y) w' (q:SP) (hp:An w' Y.s q Y.fs) (hb:Bw w w')=>show Bk X w (.returned (.tuple #[Af Y.s q,Y.e])) w' from by rw[he];exact⟨q,rfl,hp,hb⟩);have aa:Ou s fs ((K4 fs).map (·.page)) s fs=X:=hX.symm;have bc:(K4 fs).length≤64:=by
  rw[L6,Sp.Jd];unfold Dt;rw[List.length_map];exact Nat.le_trans (List.length_filter_le _ _) bb.2
 have C:=Hq hW;clear hX hW h;generalize Bk X w=Q at aq a8 ⊢;go_enter Tryz.func110,Tryz.ntmps110;go_upto_region 1 with fail;have H0:=Il w (Ai s p) 36 #[(),(),(),'s',(),false,(),(),(),(),"",'s',(),'s',()] 36;obtain⟨W0,ar⟩:=Dr H0;rw[← ar]at H0 ⊢;clear ar
 go_upto_region 2 with(first|with_reducible refine lL H0.out.Ag Ak ?_|with_reducible refine sN (Ai s p) ?_)
 have au:=Ad W0 (.cells (Ai s p) 36);have H1:=Hq (H0.out.step au);have ad:=Hq (heap_alloc_new W0 (.cells (Ai s p) 36));have bd:w.heap.size+1<W0.heap.size:=H0.out.lt (i:=1) (by simp);obtain⟨g,hg⟩:=ex W0.heap.size;obtain⟨w1,j⟩:=ex (W0.alloc (.cells (Ai s p) 36));rw[← hg,← j]at ad;rw[← j]at H1;rw[← j,← hg];rw[← hg]at bd;clear j hg au H0
 try simp only[Act.put]
 have J:=Hq (ao.out w1 H1.out.below);clear ao;unfold Za at J;generalize K4 fs=dl at J aa bc;have av:=Hq aa;clear aa
 go_upto_region 3 with(first|with_reducible refine lL H1.out.Ag Ak ?_|(go_at_call 52;(refine J.out.mono ?_);rintro e w2 ⟨DD,dc,rfl,aw,ax,ae⟩))
 have H2:=Hq (H1.out.step ae);have ay:=Hq (Ac ad.out ae);have az:=Hq (HP.out.below H2.out.below);have D:=Hq aw;have E:=Hq ax;clear ae aw ax H1 ad J
 go_loopw [13] (fun i wr=>∃ (k:Nat) (s1:Tx.St) (q1:SP) (a:List Fr),k≤dl.length∧i= .int .i64 (k:Int)∧Dm w.heap.size w [((Ai s p),36),(#[(),(),(),'s',(),false,(),(),(),(),"",'s',(),'s',()],36)] wr∧wr.heap[g]? =some (.cells (Ai s1 q1) 36 (0,0))∧An wr s1 q1 a∧Wf N n B s1 a∧Ou s fs ((dl.drop k).map (·.page)) s1 a=X∧lW wr DD dc dl∧C4 0 wr 94 DD) (fun i _=>dl.length-(intOf i).toNat)
 case atStart=>exact⟨0,s,p,fs,Nat.zero_le _,rfl,H2.out,ay.out,az.out,C.out,av.out,D.out,E.out⟩
 case round=>
  clear H2 ay az C av D E;obtain⟨k,s1,q1,a,hk,rfl,b0,b1,b2,j,r,L,b3⟩:=hrel;have u:=Hq b0;have HG:=Hq b1;have b4:=Hq b2;have C:=Hq j;have D:=Hq L;have E:=Hq b3;clear b0 b1 b2 j b3;have bl:(0:Int)≤(k:Int):=by omega
  by_cases F:k<dl.length
  ·have bm:(k:Int)<(dl.length:Int):=by omega
   have bn:IntKind.i64.wrap ((k:Int)+1)=(k:Int)+1:=IntWalk.i64_in _ (by omega);rw[List.drop_eq_getElem_cons F,List.map_cons]at r;obtain⟨b,off,b5,bf,bg,l⟩:=Bi Jx L F;obtain⟨d,b6⟩:=ex (dl[k]);rw[← b6]at l r;have b7:=Hq b5;rw[b5];have b8:=Hq (show wr.rangeAt b (off+k*2) (pX d)from l);have v:=Hq (show(if(Df s1 a d.page).e=0 then Ou s fs ((dl.drop (k+1)).map (·.page)) (Df s1 a d.page).s (Df s1 a d.page).fs else De s fs (Df s1 a d.page))=X from r);have af:=Hq (C.out.eY d.page);have ag:=Hq (fun W (hb:Bw wr W)=>Qm s1 q1 a C.out d.page W (b4.out.below hb));clear l bf bg L r b6;generalize Df s1 a d.page=Y at v af ag;obtain⟨c,b9,o⟩:=Y;simp only at v af
   go_upto_region 5 with(first
    |(refine Bt Kr fun K hK=>wp_load_mid 94 (.tmp 15) rfl b (off+k*2) rfl (pX d) _ b8.out tG Kr Kr (hK _ _ ?_))
    |with_reducible refine sN #[d.page,d.from_] ?_)
   have O:=Ad wr (.cells #[d.page,d.from_] 94);have H5:=Hq (u.out.step O);have G:=Hq (Ac HG.out O);have ah:=Hq (heap_alloc_new wr (.cells #[d.page,d.from_] 94));have P:=Hq O;obtain⟨g2,ai⟩:=ex wr.heap.size;obtain⟨w5,R⟩:=ex (wr.alloc (.cells #[d.page,d.from_] 94));rw[← ai,← R]at ah;rw[← R]at H5 G P;rw[← R,← ai];clear R ai O u HG b8
   try simp only[Act.put]
   have bh:=show w5.cell? ⟨g2,0,none⟩=some (.int .i64 d.page)from by rw[Aa ah.out];rfl
   go_upto_region 6 with(first
    |with_reducible refine lL G.out Ak ?_
    |(go_at_call 109;refine(ag.out _ P.out).mono ?_;rintro e w6 ⟨f,rfl,ba,S⟩)
    |with_reducible refine sN (Ai c f) ?_)
   have T:=S.trans ((Ad w6 (.cells (Ai c f) 36)).mono S.size);have H7:=Hq (H5.out.step T);have x:=Hq (Ac G.out T);have aj:=Hq (heap_alloc_new w6 (.cells (Ai c f) 36));have ak:=Hq (ba.below (Ad w6 (.cells (Ai c f) 36)));have H:=Hq (Ae P.out T);have bj:g<w6.heap.size:=Nat.lt_of_lt_of_le (C0 G.out) S.size;obtain⟨g3,U⟩:=ex w6.heap.size;obtain⟨w7,V⟩:=ex (w6.alloc (.cells (Ai c f) 36));rw[← U,← V]at aj;rw[← V]at H7 x ak H;rw[← V,← U];rw[← U]at bj;clear V U S T H5 G ah P ba ag bh
   try simp only[Act.put]
   go_upto_region 7 with(first|with_reducible refine lL aj.out Ak ?_|with_reducible refine lS (Ai c f) x.out ?_)
   have a6:=Hq (show lW (w7.setRow g (Ai c f)) DD dc dl from(E.out.below H.out).Dj (D.out.below H.out) x.out (by decide) (Ai c f));have a7:=Hq ((E.out.below H.out).row g (Ai c f));have H8:=Hq (H7.out.under (M:=g) (by simp;omega) (Fj (g:=g) (Nat.le_refl g) (show Below g w7 w7 from⟨rfl,rfl,rfl,Nat.le_refl _,fun _ _=>rfl⟩) (Ai c f)));have Z:=Hq (setRow_heap _ _ _ (Ai c f) _ _ x.out);have al:=Hq (ak.out.other (t:=36) x.out (by decide) (by decide) (by decide) (Ai c f));generalize w7.setRow g (Ai c f)=w8 at a6 a7 H8 Z al ⊢;clear H7 x aj ak H D
   try simp only[Act.put]
   by_cases y:o=0
   ·have bk:(o != 0)=false:=by rw[y];rfl
    have m:=v.out;rw[if_pos y]at m;have z:=Hq m;clear m y v;go_wp2_with fail;go_roundw
    case rel=>exact⟨k+1,c,f,b9,by omega,by go_num,H8.out,Z.out,al.out,af.out.1,z.out,(by rw[← b7.out];exact a6.out),(by rw[← b7.out];exact a7.out)⟩
    case measure=>simp[intOf];omega
   ·have bk:(o != 0)=true:=by rw[bne_iff_ne];exact y
    have m:=v.out;rw[if_neg y]at m;have z:=Hq m.symm;clear m y v
    by_cases A:o=0∨o=20
    ·have an:=Hq (fun W=>show Cr 149 #[Af s p,Af c f,o] W (Af c f) from by
      have h0:=Ga s p c f o W;rw[if_pos A]at h0;exact h0)
     have I:=Hq (show X=⟨c,b9,o⟩from by rw[z.out];unfold De;rw[if_pos A]);clear A z
     go_wp2_with(first
      |with_reducible refine lL H8.out.Ag Ak ?_
      |with_reducible refine lL Z.out Ak ?_
      |(go_at_call 149;refine(an.out _).mono ?_;rintro e w9 ⟨rfl,a1⟩;have H9:=Hq (H8.out.step a1))
      |with_reducible refine lS (Ai c f) H9.out.Ah ?_)
     refine rT2 o H9.out.Ah Ak ?_;exact a8.out _ I.out _ f ((al.out.below a1).other (t:=36) H9.out.Ah (by decide) (by decide) (by decide) _) (H9.out.row 1 (Ai c f) _ rfl).below
    ·have an:=Hq (fun W=>show Cr 149 #[Af s p,Af c f,o] W (Af s p) from by
      have h0:=Ga s p c f o W;rw[if_neg A]at h0;exact h0)
     have I:=Hq (show X=⟨s,fs,o⟩from by rw[z.out];unfold De;rw[if_neg A]);clear A z
     go_wp2_with(first
      |with_reducible refine lL H8.out.Ag Ak ?_
      |with_reducible refine lL Z.out Ak ?_
      |(go_at_call 149;refine(an.out _).mono ?_;rintro e w9 ⟨rfl,a1⟩;have H9:=Hq (H8.out.step a1))
      |with_reducible refine lS (Ai s p) H9.out.Ah ?_)
     refine rT2 o H9.out.Ah Ak ?_;exact aq.out _ (H9.out.row 1 (Ai s p) _ rfl).below o I.out
  ·obtain rfl:k=dl.length:=by omega
   have I:=Hq (show X=⟨s1,a,0⟩from by rw[← r,List.drop_length];rfl);clear L r F
   go_wp2_with(first|with_reducible refine lL HG.out Ak ?_|with_reducible refine lS (Ai s1 q1) u.out.Ah ?_)
   refine rT2 () u.out.Ah Ak ?_;exact a8.out _ I.out _ q1 (b4.out.other (t:=36) u.out.Ah (by decide) (by decide) (by decide) _) (u.out.row 1 (Ai s1 q1) _ rfl).below
theorem Ov (s:Tx.St)(p:SP)(b:Tx.tL s)(r:Rc.Rec)(q:r.txns=[])(t:r.dirty=[])(w:World)(l:r.kind=2∨r.kind=3∨r.kind=8):
 Cr 179 #[Af s p,.agg (D7 r (.slice none 0 0) (.slice none 0 0))] w (.tuple #[Af {s with log:=(Lg.Ay s.log r).1} p,.int .i64 (Lg.Ay s.log r).2.1,.int .i64 (Lg.Ay s.log r).2.2]):=by
 have u:=Hq (fun W=>show Cq 201 #[Oc s.log,.agg (D7 r (.slice none 0 0) (.slice none 0 0))] W (Sg (Lg.Ay s.log r) W)from by
  have v:=bQ s.log b.e0 (by have:=b.e1;omega) (by have:=b.n0;omega) (by have:=b.n1;omega) (by have:=b.t0;have:=b.e1;omega) r none none 0 0 W (Su r W q t) l;simp only[q,t,List.length_nil]at v;exact v)
 generalize Lg.Ay s.log r=x at u ⊢;go_enter Tryz.func179,Tryz.ntmps179;go_upto_region 1 with fail;have c:=Jo w (Ai s p) 36 (D7 r (.slice none 0 0) (.slice none 0 0)) 88 #[(),(),(),'s',(),false,(),(),(),(),"",'s',(),'s',()] 36;obtain⟨z,d⟩:=Dr c;rw[← d]at c ⊢;clear d
 go_upto_region 2 with(first
  |with_reducible refine lP #[s.log.from_,s.log.n,s.log.end_,s.log.safe,s.log.tail] c.out.Ag Fp ?_
  |with_reducible refine lL c.out.Ah Ds ?_
  |(go_at_call 201;(with_reducible refine(u.out _).mono ?_);rintro e f ⟨rfl,h⟩;have H1:=Hq (c.out.step h);clear h)
  |with_reducible refine sN #[x.1.from_,x.1.n,x.1.end_,x.1.safe,x.1.tail] ?_)
 have m:=Hq (H1.out.step (Ad f (.cells #[x.1.from_,x.1.n,x.1.end_,x.1.safe,x.1.tail] 30)));have y:=Hq (heap_alloc_new f (.cells #[x.1.from_,x.1.n,x.1.end_,x.1.safe,x.1.tail] 30));have o:w.heap.size+2<f.heap.size:=H1.out.lt (i:=2) (by simp);obtain⟨g,k⟩:=ex f.heap.size;obtain⟨A,a⟩:=ex (f.alloc (.cells #[x.1.from_,x.1.n,x.1.end_,x.1.safe,x.1.tail] 30));rw[← k,← a]at y;rw[← a]at m;rw[← a,← k];rw[← k]at o;clear a k c H1
 try simp only[Act.put]
 go_upto_region 3 with(first
  |with_reducible refine lL y.out Fp ?_
  |with_reducible refine lU #[x.1.from_,x.1.n,x.1.end_,x.1.safe,x.1.tail] (Ai {s with log:=x.1} p) m.out.Ag ?_)
 have j:=Hq (m.out.row 0 (Ai {s with log:=x.1} p) _ rfl);have B:=j.out.Ag
 go_wp2_with(first
  |with_reducible refine lL j.out.Ag Ak ?_
  |with_reducible refine lS (Ai {s with log:=x.1} p) j.out.Ax ?_)
 refine rT3 (x.2.1) (x.2.2) j.out.Ax Ak ?_;exact⟨rfl,(j.out.row 2 (Ai {s with log:=x.1} p) _ rfl).below⟩
theorem nR {w w':World}{A:Option Addr}{c n M:Nat}{vs:List Value}(h:Reads w A c n vs)(g:∀ ad,A=some ad→ad.block<M)(f:Below M w w'):Reads w' A c n vs:=fun i=>by
 obtain⟨b,off,e,k,d,a⟩:=h i;exact⟨b,off,e,k,Nat.lt_of_lt_of_le d f.size,fun j v l=>by rw[f.cell (p:=⟨b,off+j,none⟩) (show b<M from g ⟨b,off,none⟩ e)];exact a j v l⟩
theorem An.upto {w w':World}{s:Tx.St}{p:SP}{fs:List Fr}(h:An w s p fs){M:Nat}(c:∀ ad,p.A=some ad→ad.block<M)(hF:∀ ad,p.F=some ad→ad.block<M)(a:Below M w w'){d:List Rc.Ci}{T:Option Addr}{tc:Nat}(f:lV w' T tc d)(b:C4 0 w' 134 T):
 An w' {s with txns:=d} {p with T:=T,tc:=tc} fs:=
 ⟨⟨⟨nR h.st.dk.secs c a,h.st.dk.small⟩,fun ad e=>⟨(h.st.dt ad e).1,by rw[a.block _ (c ad e)];exact(h.st.dt ad e).2⟩,f,b⟩,h.fn,nR h.fr hF a,fun ad e=>⟨(h.ft ad e).1,by rw[a.block _ (hF ad e)];exact(h.ft ad e).2⟩⟩
theorem nS (a:Rc.Ci)(t:Int)(b:Nat)(w:World)(d:w.cell? ⟨b,2,none⟩=some (.int .i64 t)):Cq 177 #[.agg (tQ a),.pointer (some ⟨b,0,none⟩)] w (Om (a.txn=t) w):=by
 have k:=Hq d;have g:b<w.heap.size:=by
  rcases Nat.lt_or_ge b w.heap.size with h|h
  ·exact h
  ·rw[World.cell?,Array.getElem?_eq_none h]at d
   cases d
 have i:=show(w.alloc (.cells (tQ a) 134)).cell? ⟨b,2,none⟩=some (.int .i64 t)from by rw[(Ad w (.cells (tQ a) 134)).cell (p:=⟨b,2,none⟩) g];exact d
 have j:=show(w.alloc (.cells (tQ a) 134)).cell? ⟨w.heap.size,0,none⟩=some (.int .i64 a.txn)from by rw[Aa (heap_alloc_new w (.cells (tQ a) 134))];rfl
 clear d
 by_cases c:a.txn=t
 ·have e:=Hq (fun w' f=>cC (p:=a.txn=t) (w:=w) (w':=w') c f)
  generalize Om (a.txn=t) w=Q at e ⊢;have f:(a.txn==t)=true:=by rw[c];exact beq_self_eq_true _
  clear c;go_enter Tryz.func177,Tryz.ntmps177;go_wp2_with fail;exact e.out _ (Ad _ _)
 ·have e:=Hq (fun w' f=>cD (p:=a.txn=t) (w:=w) (w':=w') c f)
  generalize Om (a.txn=t) w=Q at e ⊢;have f:(a.txn==t)=false:=beq_eq_false_iff_ne.2 c;clear c;go_enter Tryz.func177,Tryz.ntmps177;go_wp2_with fail;exact e.out _ (Ad _ _)
theorem U3 {s:Tx.St}{fs:List Fr}{r:Rc.Rec}{D:ByteArray→ByteArray×Int}{i:Nat}(b:(r.kind=2∨r.kind=3)∧Gh s r.page)(hi:s.txns.findIdx? (fun a=>decide (a.txn=r.txn))=some i):
 D5 s fs r D=if ¬ (Aq s fs r.page).1.e=0 then(Aq s fs r.page).1 else
 if ¬ (D (Cp (Aq s fs r.page).1.fs (Aq s fs r.page).2).bytes).2=0 then⟨s,fs,(D (Cp (Aq s fs r.page).1.fs (Aq s fs r.page).2).bytes).2⟩else
 Ty (Aq s fs r.page).1 (Aq s fs r.page).2 i s fs r (D (Cp (Aq s fs r.page).1.fs (Aq s fs r.page).2).bytes).1:=by
 unfold D5;rw[if_neg (fun c=>c b),hi]
theorem Ow {N n B:Nat}(s:Tx.St)(p:SP)(fs:List Fr)(hW:Wf N n B s fs)(hB:B≤1000000)(t A pg C:Int)(o:Rc.Op)(U rt:Int)(k:Rc.Key)(D:ByteArray→ByteArray×Int)(hD:∀ b,(D b).2=0→Bj (D b).1=true)(w:World)
 (dr:∀ b W,b.size≤512→Bw w W→Cr 178 #[.string b,.agg #[.int .i64 o.kind,.int .i64 o.slot,.string o.Bd,.string o.new]] W (Gm (D b))) (h:An w s p fs):
 Cq 107 #[Af s p,.agg #[.int .i64 0,.int .i64 0,.int .i64 t,.int .i64 A,.int .i64 pg,.int .i64 C,.int .i64 0,.int .i64 o.kind,.int .i64 o.slot,.string o.Bd,.string o.new,.int .i64 U,.int .i64 rt,.string k.key,.int .i64 k.page,.int .i64 k.slot,.slice none 0 0,.slice none 0 0]] w (Bk (D5 s fs (⟨0,0,t,A,pg,C,0,o,U,rt,k,[],[]⟩:Rc.Rec) D) w):=by
 obtain⟨X,hX⟩:=ex (D5 s fs (⟨0,0,t,A,pg,C,0,o,U,rt,k,[],[]⟩:Rc.Rec) D);rw[← hX];have eu:=hW.zp;have a6:=Hq (fun W=>L5 s p n hW.zp pg W);have a7:=Hq (fun W (hb:Bw w W) (e:Int)=>show X=⟨s,fs,e⟩→Bk X w (.returned (.tuple #[Af s p,.int .i64 e])) W from fun he=>by rw[he];exact⟨p,rfl,h.below hb,hb⟩)
 by_cases R:A=2∨A=3
 ·by_cases bh:0≤pg∧pg<(n:Int)
  ·rw[decide_eq_true bh]at a6
   have hh:Gh s pg:=⟨bh.1,by omega⟩;have ik:=hW.tl;have gd:=Hq (fun(g:Nat) W (hb:Bw w W) (hg:W.cell? ⟨g,2,none⟩=some (.int .i64 t)) (il:g<W.heap.size)=>cB (fun a=>a.txn=t) 177 #[.pointer (some ⟨g,0,none⟩)] (enters_of Tryz.func177 Kr rfl) s.txns (by omega) p.T p.tc W (h.st.tx.below hb) (fun a _ V hV=>nS a t g V (by rw[hV.cell (p:=⟨g,2,none⟩) il];exact hg)));have ds:=Hq (fun W (hb:Bw w W)=>K3 s p fs hW hB pg W (h.below hb));have gf:=Hq (fun(hi:s.txns.findIdx? (fun a=>decide (a.txn=t))=none)=>show X=⟨s,fs,21⟩from by
    rw[hX];unfold D5;rw[if_neg (fun Z=>Z ⟨R,hh⟩),hi])
   have bj:=Hq (fun(i:Nat) (hi:s.txns.findIdx? (fun a=>decide (a.txn=t))=some i)=>hX.trans (U3 (s:=s) (fs:=fs) (r:=(⟨0,0,t,A,pg,C,0,o,U,rt,k,[],[]⟩:Rc.Rec)) (D:=D) ⟨R,hh⟩ hi));have c8:=hW.held pg;have b7:=(Pv s fs pg).1;have HD:=Hq hD;have gg:=Hq dr;have du:=Hq (fun(Y:Px) (he:X=Y) w' (q:SP) (hp:An w' Y.s q Y.fs) (hb:Bw w w')=>show Bk X w (.returned (.tuple #[Af Y.s q,.int .i64 Y.e])) w' from by rw[he];exact⟨q,rfl,hp,hb⟩);have im:=hW.n1.2.2;have jc:=hW.nf;clear h hX hW hD dr hh bh eu;generalize Bk X w=Q at a7 du ⊢;generalize Aq s fs pg=r at ds bj c8 b7;obtain⟨⟨xs,l,xe⟩,xk⟩:=r;simp only at ds bj c8 b7;have ca:xk<l.length:=(by omega);have iq:l.length≤100:=(by omega);have b0:=c8.2.2.2;rw[Br ca]at bj b0;have cb:=Hq c8.1;have ev:=Hq b0;have eb:=Hq b7;clear c8 b0 b7;obtain⟨f,dv⟩:=ex (l[xk]);rw[← dv]at bj ev;have gh:=Hq dv;have ec:f.bytes.size≤512:=(by rw[dv];exact(cb.out.fr xk ca).sz);clear dv;go_enter Tryz.func107,Tryz.ntmps107;go_upto_region 1 with fail;have G:=Jo w (Ai s p) 36 #[.int .i64 0,.int .i64 0,.int .i64 t,.int .i64 A,.int .i64 pg,.int .i64 C,.int .i64 0,.int .i64 o.kind,.int .i64 o.slot,.string o.Bd,.string o.new,.int .i64 U,.int .i64 rt,.string k.key,.int .i64 k.page,.int .i64 k.slot,.slice none 0 0,.slice none 0 0] 88 #[.int .i64 0,.int .i64 0,.int .i64 0,.slice none 0 0,.int .i64 0,.bool false,.int .i64 0,.int .i64 0,.int .i64 0,.int .i64 0,.string ⟨#[]⟩,.slice none 0 0,.int .i64 0,.slice none 0 0,.int .i64 0] 36;obtain⟨W0,af⟩:=Dr G;rw[← af]at G ⊢;clear af;have dw:=show W0.cell? ⟨(w.heap.size+1),3,none⟩=some (.int .i64 A)from(by rw[Aa G.out.Ah];rfl);have bk:=show W0.cell? ⟨(w.heap.size+1),4,none⟩=some (.int .i64 pg)from(by rw[Aa G.out.Ah];rfl);have gi:=Hq R
   go_cut [27] (fun x wc=>x= .bool false∧Bw W0 wc)
   case first=>
    rcases R with rfl|rfl
    ·go_wp2_with(first|with_reducible refine lL G.out.Ag Ak ?_|(go_at_call 145;refine(a6.out _).mono ?_;rintro e w1 ⟨rfl,b1⟩))
     go_meet
     case rel=>exact⟨rfl,b1⟩
    ·go_wp2_with(first|with_reducible refine lL G.out.Ag Ak ?_|(go_at_call 145;refine(a6.out _).mono ?_;rintro e w1 ⟨rfl,b1⟩))
     go_meet
     case rel=>exact⟨rfl,b1⟩
   case rest=>
    obtain⟨rfl,cc⟩:=hcut;obtain⟨w1,rfl⟩:=ex wc;have H1:=Hq (G.out.step cc);have H:=show w1.cell? ⟨w.heap.size,13,none⟩=some (.slice p.T s.txns.length p.tc)from(by rw[Aa H1.out.Ag];rfl);have gj:=Hq (gd.out (w.heap.size+1) w1 H1.out.below (by rw[Aa H1.out.Ah];rfl) (H1.out.lt (i:=1) (by simp)));clear dw bk cc a6 G gd R
    go_upto_region 4 with(go_at_call 176;(refine gj.out.mono ?_);rintro e w2 ⟨kk,rfl,hq,gk⟩;have H2:=Hq (H1.out.step gk))
    clear gk H1 gj H;rcases hq with⟨rfl,hq⟩|⟨i,hi,rfl,gl,gm⟩
    ·have gn:(-1:Int)<0:=by decide
     have ir:=Hq (gf.out (On fun x hx=>by simpa using hq x hx));clear hq
     go_wp2_with(first|with_reducible refine lL H2.out.Ag Ak ?_|with_reducible refine lS (Ai s p) H2.out.Ax ?_)
     refine rT2 (.int .i64 21) H2.out.Ax Ak ?_;exact a7.out _ (H2.out.row 2 (Ai s p) _ rfl).below 21 ir.out
    have jd:¬ (i:Int)<0:=(by omega);have dx:=Hq (bj.out i (Oo hi (by simpa using gl) fun j hj iu=>by simpa using gm j iu));have bk:=show w2.cell? ⟨(w.heap.size+1),4,none⟩=some (.int .i64 pg)from(by rw[Aa H2.out.Ah];rfl);clear gl gm bj gf
    go_upto_region 7 with(first
     |with_reducible refine lL H2.out.Ag Ak ?_
     |(go_at_call 71;refine(ds.out _ H2.out.below).mono ?_;rintro e w4 ⟨q,rfl,gp,dy⟩)
     |with_reducible refine sN (Ai xs q) ?_)
    have gq:=dy.trans ((Ad w4 (.cells (Ai xs q) 36)).mono dy.size);have H5:=Hq (H2.out.step gq);have bl:=Hq (heap_alloc_new w4 (.cells (Ai xs q) 36));have bm:=Hq (gp.below (Ad w4 (.cells (Ai xs q) 36)));have iv:(w.heap.size+2)<w4.heap.size:=Nat.lt_of_lt_of_le (H2.out.lt (i:=2) (by simp)) dy.size;obtain⟨g,hg⟩:=ex w4.heap.size;obtain⟨w5,dz⟩:=ex (w4.alloc (.cells (Ai xs q) 36));rw[← hg,← dz]at bl;rw[← dz]at H5 bm;rw[← dz,← hg];rw[← hg]at iv;clear dz hg dy gq gp H2 ds bk
    try simp only[Act.put]
    by_cases bn:xe=0
    case neg=>
     have gr:(xe != 0)=true:=(by rw[bne_iff_ne];exact bn);have I:=Hq (show X=⟨xs,l,xe⟩from by rw[dx.out,if_pos bn]);clear bn dx
     go_wp2_with(first|with_reducible refine lL bl.out Ak ?_|with_reducible refine lS (Ai xs q) H5.out.Ax ?_)
     refine rT2 (.int .i64 xe) H5.out.Ax Ak ?_;exact du.out _ I.out _ q (bm.out.other (t:=36) H5.out.Ax (by decide) (by decide) (by decide) _) (H5.out.row 2 (Ai xs q) _ rfl).below
    have gr:(xe != 0)=false:=(by rw[bn];rfl);have je:=Hq (ev.out bn);have bo:=Hq (show X=if ¬ (D f.bytes).2=0 then⟨s,fs,(D f.bytes).2⟩else Ty ⟨xs,l,xe⟩ xk i s fs (⟨0,0,t,A,pg,C,0,o,U,rt,k,[],[]⟩:Rc.Rec) (D f.bytes).1 from by rw[dx.out,if_neg (fun Z=>Z bn)]);clear dx ev;have ja:(0:Int)≤(xk:Int):=(by omega);have jf:(xk:Int)<(l.length:Int):=(by omega);obtain⟨ew,cd,ey,iw,gu,b2⟩:=Bi Cc bm.out.fr ca;rw[← gh.out]at b2;have gv:=Hq (show w5.rangeAt ew (cd+xk*5) (F4 f)from b2);have gw:=show w5.cell? ⟨g,11,none⟩=some (.slice (some ⟨ew,cd,none⟩) l.length q.fc)from(by rw[Aa bl.out,← ey,← bm.out.fn];rfl);have gx:∀ ad,q.F=some ad→ad.block<w5.heap.size:=fun ad e=>by rw[ey]at e;injection e with e;subst e;exact gu
    have e0:=Hq gx;clear b2 iw gu ey gx
    go_upto_region 10 with(first
     |(refine Bt Kr fun K hK=>wp_load_mid 116 (.tmp 52) rfl ew (cd+xk*5) rfl (F4 f) _ gv.out Cw Kr Kr (hK _ _ ?_))
     |with_reducible refine sN (Cg f) ?_)
    have e1:=Ad w5 (.cells (Cg f) 116);have H6:=Hq (H5.out.step e1);have e2:=Hq (heap_alloc_new w5 (.cells (Cg f) 116));have ez:=Hq (Ac bl.out e1);have fa:=Hq (bm.out.below e1);have gy:g<w5.heap.size:=C0 bl.out;obtain⟨g2,e5⟩:=ex w5.heap.size;obtain⟨w6,e6⟩:=ex (w5.alloc (.cells (Cg f) 116));rw[← e5,← e6]at e2;rw[← e6]at H6 ez fa;rw[← e6,← e5];rw[← e5]at gy e0;clear e6 e5 e1 H5 bl bm gv gw gr
    try simp only[Act.put]
    have cf:=Hq (gg.out f.bytes w6 ec H6.out.below);have e7:=Hq (HD.out f.bytes);generalize D f.bytes=bd at cf e7 bo;obtain⟨b,be⟩:=bd;simp only at cf e7 bo;have gz:=Hq (show ∃ fb,fb=f.bytes from⟨_,rfl⟩);obtain⟨fb,fe⟩:=gz.out;rw[← fe]at cf ec;have cg:=Hq fe;clear gz fe HD gg;have ff:=show w6.cell? ⟨g2,1,none⟩=some (.string fb)from by rw[Aa e2.out,cg.out];rfl
    go_upto_region 11 with(first
     |with_reducible refine lP #[.int .i64 o.kind,.int .i64 o.slot,.string o.Bd,.string o.new] H6.out.Ah gF ?_
     |(go_at_call 178;(refine cf.out.mono ?_);rintro e w7 ⟨rfl,ch⟩))
    have H7:=Hq (H6.out.step ch);have cj:=Hq (Ac ez.out ch);have bp:=Hq (Ac e2.out ch);have e8:=Hq (fa.out.below ch);clear ff ch H6 ez e2 fa cf
    by_cases ag:be=0
    case neg=>
     have ix:(be != 0)=true:=(by rw[bne_iff_ne];exact ag);have I:=Hq (show X=⟨s,fs,be⟩from by rw[bo.out,if_pos ag]);clear ag bo
     go_wp2_with(first|with_reducible refine lL H7.out.Ag Ak ?_|with_reducible refine lS (Ai s p) H7.out.Ax ?_)
     refine rT2 (.int .i64 be) H7.out.Ax Ak ?_;exact a7.out _ (H7.out.row 2 (Ai s p) _ rfl).below be I.out
    have ix:(be != 0)=false:=(by rw[ag];rfl);have iy:=Hq (e7.out ag);have iz:=Hq ag;have bq:=Hq (show X=(if ¬ (E3 xs f pg).2.2=0 then(⟨s,fs,(E3 xs f pg).2.2⟩:Px)else
     if ¬ (Lg.Ay (E3 xs f pg).1 (⟨0,(F9 xs.txns i).last,t,A,pg,C,0,o,U,rt,k,[],[]⟩:Rc.Rec)).2.2=0 then⟨s,fs,(Lg.Ay (E3 xs f pg).1 (⟨0,(F9 xs.txns i).last,t,A,pg,C,0,o,U,rt,k,[],[]⟩:Rc.Rec)).2.2⟩else
     ⟨{xs with log:=(Lg.Ay (E3 xs f pg).1 (⟨0,(F9 xs.txns i).last,t,A,pg,C,0,o,U,rt,k,[],[]⟩:Rc.Rec)).1,txns:=xs.txns.set i {F9 xs.txns i with last:=(Lg.Ay (E3 xs f pg).1 (⟨0,(F9 xs.txns i).last,t,A,pg,C,0,o,U,rt,k,[],[]⟩:Rc.Rec)).2.1,next:=if A=3 then C else(Lg.Ay (E3 xs f pg).1 (⟨0,(F9 xs.txns i).last,t,A,pg,C,0,o,U,rt,k,[],[]⟩:Rc.Rec)).2.1}},l.set xk ⟨f.page,Cj b (Lg.Ay (E3 xs f pg).1 (⟨0,(F9 xs.txns i).last,t,A,pg,C,0,o,U,rt,k,[],[]⟩:Rc.Rec)).2.1,f.pins,true,(E3 xs f pg).2.1⟩,0⟩)from by
     rw[bo.out,if_neg (fun Z=>Z ag)];unfold Ty;simp only;rw[Br ca,← gh.out])
    have br:=Hq (show Ww N (E3 xs f pg).1∧(f.rc=0→E3 xs f pg=Lg.Ay xs.log (⟨0,0,0,8,pg,0,0,⟨7,0,⟨#[]⟩,fb⟩,0,0,Rc.Ey,[],[]⟩:Rc.Rec))∧(¬ f.rc=0→E3 xs f pg=(xs.log,f.rc,0))from by
     unfold E3
     split
     ·rename_i hr
      exact⟨cb.out.low.append _,(fun _=>by rw[cg.out];rfl),fun Z=>absurd hr Z⟩
     ·rename_i hr
      exact⟨cb.out.low,(fun Z=>absurd Z hr),fun _=>rfl⟩)
    clear ag bo e7;generalize E3 xs f pg=m at bq br;obtain⟨l3,y,e3⟩:=m;simp only at bq br;have h0:=show w7.cell? ⟨g2,4,none⟩=some (.int .i64 f.rc)from(by rw[Aa bp.out];rfl);go_upto_if 68 with fail
    go_cut [9] (fun x wc=>x= .int .i64 0∧e3=0∧Dm w.heap.size w [((Ai s p),36),(#[.int .i64 0,.int .i64 0,.int .i64 t,.int .i64 A,.int .i64 pg,.int .i64 C,.int .i64 0,.int .i64 o.kind,.int .i64 o.slot,.string o.Bd,.string o.new,.int .i64 U,.int .i64 rt,.string k.key,.int .i64 k.page,.int .i64 k.slot,.slice none 0 0,.slice none 0 0],88),(#[.int .i64 0,.int .i64 0,.int .i64 0,.slice none 0 0,.int .i64 0,.bool false,.int .i64 0,.int .i64 0,.int .i64 0,.int .i64 0,.string ⟨#[]⟩,.slice none 0 0,.int .i64 0,.slice none 0 0,.int .i64 0],36)] wc∧wc.heap[g]? =some (.cells (Ai {xs with log:=l3} q) 36 (0,0))∧wc.heap[g2]? =some (.cells (Cg {f with rc:=y}) 116 (0,0))∧An wc {xs with log:=l3} q l)
    case first=>
     by_cases bs:f.rc=0
     ·have j0:(f.rc==0)=true:=by rw[bs];rfl
      have a8:=Hq (fun W=>show Cq 179 #[Af xs q,.agg #[.int .i64 0,.int .i64 0,.int .i64 0,.int .i64 8,.int .i64 pg,.int .i64 0,.int .i64 0,.int .i64 7,.int .i64 0,.string ⟨#[]⟩,.string fb,.int .i64 0,.int .i64 0,.string ⟨#[]⟩,.int .i64 0,.int .i64 0,.slice none 0 0,.slice none 0 0]] W _ from Ov xs q cb.out.lb (⟨0,0,0,8,pg,0,0,⟨7,0,⟨#[]⟩,fb⟩,0,0,Rc.Ey,[],[]⟩:Rc.Rec) rfl rfl W (.inr (.inr rfl)));rw[← br.out.2.1 bs]at a8;dsimp only at a8;have fg:=show w7.cell? ⟨(w.heap.size+1),4,none⟩=some (.int .i64 pg)from(by rw[Aa H7.out.Ah];rfl);have ff:=show w7.cell? ⟨g2,1,none⟩=some (.string fb)from(by rw[Aa bp.out,cg.out];rfl);clear bs
      go_upto_region 15 with(first
       |with_reducible refine lL cj.out Ak ?_
       |(go_at_call 179;refine(a8.out _).mono ?_;rintro e w8 ⟨rfl,ck⟩;have H8:=Hq (H7.out.step ck);have ah:=Hq (Ac cj.out ck);have cm:=Hq (Ac bp.out ck);have bt:=Hq (e8.out.below ck);have aa:=Hq ((Aj w8 g (Ai {xs with log:=l3} q) g2 (by omega)).trans cm.out);have j1:=show(w8.setRow g (Ai {xs with log:=l3} q)).cell? ⟨g2,4,none⟩=some (.int .i64 f.rc)from(by rw[Aa aa.out];rfl);have j2:=Ao aa.out 4)
       |with_reducible refine lS (Ai {xs with log:=l3} q) ah.out ?_)
      have h2:=Fj (g:=g) (Nat.le_refl g) (show Below g w8 w8 from⟨rfl,rfl,rfl,Nat.le_refl _,fun _ _=>rfl⟩) (Ai {xs with log:=l3} q);have H9:=Hq (H8.out.under (M:=g) (by simp;omega) h2);have b3:=Hq (setRow_heap _ _ _ (Ai {xs with log:=l3} q) _ _ ah.out);have bu:=Hq (show An (w8.setRow g (Ai {xs with log:=l3} q)) {xs with log:=l3} q l from by have h1:=bt.out.other (t:=36) ah.out (by decide) (by decide) (by decide) (Ai {xs with log:=l3} q);exact⟨⟨h1.st.dk,h1.st.dt,h1.st.tx,h1.st.tt⟩,h1.fn,h1.fr,h1.ft⟩);have ae:=Hq (H9.out.under (M:=g2) (by simp;omega) ((Below.refl _ _).setCell (p:=⟨g2,4,none⟩) (Nat.le_refl _) (.int .i64 y)));have J:=Hq (show((w8.setRow g (Ai {xs with log:=l3} q)).setCell ⟨g2,4,none⟩ (.int .i64 y)).heap[g]? =some (.cells (Ai {xs with log:=l3} q) 36 (0,0))from by rw[Below.heap_setCell _ _ _ _ (by show g≠g2;omega)];exact b3.out);have ai:=Hq (show((w8.setRow g (Ai {xs with log:=l3} q)).setCell ⟨g2,4,none⟩ (.int .i64 y)).heap[g2]? =some (.cells (Cg {f with rc:=y}) 116 (0,0))from by have:=Bs 4 aa.out (.int .i64 y);simpa using this);have aj:=Hq (bu.out.own aa.out (fun ad e=>by have:=e0.out ad e;omega) 4 (.int .i64 y));generalize (w8.setRow g (Ai {xs with log:=l3} q)).setCell ⟨g2,4,none⟩ (.int .i64 y)=bw at ae J ai aj ⊢;clear H7 cj bp e8 h0 H8 ah cm bt aa H9 b3 bu h2 ck j1 j2 fg ff
      try simp only[Act.put]
      by_cases bx:e3=0
      ·have h3:(e3 != 0)=false:=by rw[bx];rfl
       have HE:=Hq bx;clear bx;go_wp2_with fail;go_meet
       case rel=>exact⟨congrArg (Value.int .i64) HE.out,HE.out,ae.out,J.out,ai.out,aj.out⟩
      ·have h3:(e3 != 0)=true:=by rw[bne_iff_ne];exact bx
       have I:=Hq (show X=⟨s,fs,e3⟩from by rw[bq.out,if_pos bx]);clear bx bq
       go_wp2_with(first|with_reducible refine lL ae.out.Ag Ak ?_|with_reducible refine lS (Ai s p) ae.out.Ax ?_)
       refine rT2 (.int .i64 e3) ae.out.Ax Ak ?_;exact a7.out _ (ae.out.row 2 (Ai s p) _ rfl).below e3 I.out
     ·have j0:(f.rc==0)=false:=beq_eq_false_iff_ne.2 bs
      have hm:=br.out.2.2 bs
      injection hm with gn hm
      injection hm with j3 j4
      subst gn j3 j4;clear bs;go_wp2_with fail;go_meet
      case rel=>exact⟨congrArg (Value.int .i64) iz.out,(by first|trivial|rfl),H7.out,cj.out,bp.out,e8.out⟩
    case rest=>
     obtain⟨rfl,ed,h8,h4,h5,h6⟩:=hcut;obtain⟨w8,rfl⟩:=ex wc;have H8:=Hq h8;have ah:=Hq h4;have cm:=Hq h5;have bt:=Hq h6;have cn:i<xs.txns.length:=(by rw[eb.out];exact hi);have jg:(i:Int)<(xs.txns.length:Int):=(by omega);have jb:(0:Int)≤(i:Int):=(by omega);have fh:=bq.out;rw[if_neg (fun Z=>Z ed),Ot cn]at fh;have ak:=Hq fh;clear h8 h4 h5 h6 H7 cj bp e8 h0 fh bq ed;obtain⟨tb,h7,h9,j5,ha,b8⟩:=Bi Fo bt.out.st.tx cn;obtain⟨tv,e9⟩:=ex (xs.txns[i]);rw[← e9]at ak;have hc:=Hq e9;have hd:=b8 1 (.int .i64 tv.last) (by rw[e9];rfl);have H:=show w8.cell? ⟨g,13,none⟩=some (.slice (some ⟨tb,h7,none⟩) xs.txns.length q.tc)from(by rw[Aa ah.out,← h9];rfl);have fi:=show w8.cell? ⟨(w.heap.size+1),1,none⟩=some (.int .i64 0)from(by rw[Aa H8.out.Ah];rfl);have fj:=Ao H8.out.Ah 1;clear b8 j5 ha h9 e9;obtain⟨pv,hf⟩:=ex tv.last;rw[← hf]at hd ak;clear hf;go_upto_region 18 with fail;have H9:=Hq (show Dm w.heap.size w [((Ai s p),36),(#[.int .i64 0,.int .i64 pv,.int .i64 t,.int .i64 A,.int .i64 pg,.int .i64 C,.int .i64 0,.int .i64 o.kind,.int .i64 o.slot,.string o.Bd,.string o.new,.int .i64 U,.int .i64 rt,.string k.key,.int .i64 k.page,.int .i64 k.slot,.slice none 0 0,.slice none 0 0],88),(#[.int .i64 0,.int .i64 0,.int .i64 0,.slice none 0 0,.int .i64 0,.bool false,.int .i64 0,.int .i64 0,.int .i64 0,.int .i64 0,.string ⟨#[]⟩,.slice none 0 0,.int .i64 0,.slice none 0 0,.int .i64 0],36)] (w8.setCell ⟨(w.heap.size+1),1,none⟩ (.int .i64 pv))from H8.out.set 1 1 (.int .i64 pv) _ rfl);have b3:=Hq (show(w8.setCell ⟨(w.heap.size+1),1,none⟩ (.int .i64 pv)).heap[g]? =some (.cells (Ai {xs with log:=l3} q) 36 (0,0))from by rw[Below.heap_setCell _ _ _ _ (by show g≠(w.heap.size+1);omega)];exact ah.out);have aa:=Hq (show(w8.setCell ⟨(w.heap.size+1),1,none⟩ (.int .i64 pv)).heap[g2]? =some (.cells (Cg {f with rc:=y}) 116 (0,0))from by rw[Below.heap_setCell _ _ _ _ (by show g2≠(w.heap.size+1);omega)];exact cm.out);have bu:=Hq (bt.out.set H8.out.Ah (by decide) (by decide) (by decide) 1 (.int .i64 pv));generalize w8.setCell ⟨(w.heap.size+1),1,none⟩ (.int .i64 pv)=w9 at H9 b3 aa bu ⊢;clear H fi fj hd H8 ah cm bt;have a8:=Hq (fun W=>show Cq 179 #[Af {xs with log:=l3} q,.agg #[.int .i64 0,.int .i64 pv,.int .i64 t,.int .i64 A,.int .i64 pg,.int .i64 C,.int .i64 0,.int .i64 o.kind,.int .i64 o.slot,.string o.Bd,.string o.new,.int .i64 U,.int .i64 rt,.string k.key,.int .i64 k.page,.int .i64 k.slot,.slice none 0 0,.slice none 0 0]] W _ from Ov {xs with log:=l3} q (cb.out.log br.out.1).lb (⟨0,pv,t,A,pg,C,0,o,U,rt,k,[],[]⟩:Rc.Rec) rfl rfl W (gi.out.imp id .inl));have hl:=Hq (Sz br.out.1 im (⟨0,pv,t,A,pg,C,0,o,U,rt,k,[],[]⟩:Rc.Rec));dsimp only at a8;generalize Lg.Ay l3 (⟨0,pv,t,A,pg,C,0,o,U,rt,k,[],[]⟩:Rc.Rec)=a at a8 ak hl;obtain⟨E,d,e4⟩:=a;simp only at a8 ak hl
     go_upto_region 19 with(first
      |with_reducible refine lL b3.out Ak ?_
      |with_reducible refine lL H9.out.Ah Ds ?_
      |(go_at_call 179;refine(a8.out _).mono ?_;rintro e bw ⟨rfl,al⟩;have ae:=Hq (H9.out.step al);have J:=Hq (Ac b3.out al);have ai:=Hq (Ac aa.out al);have aj:=Hq (bu.out.below al);clear al)
      |with_reducible refine lS (Ai {xs with log:=E} q) J.out ?_)
     have b4:=Hq (ae.out.under (M:=g) (by simp;omega) (Fj (g:=g) (Nat.le_refl g) (show Below g bw bw from⟨rfl,rfl,rfl,Nat.le_refl _,fun _ _=>rfl⟩) (Ai {xs with log:=E} q)));have cp:=Hq (setRow_heap _ _ _ (Ai {xs with log:=E} q) _ _ J.out);have cq:=Hq ((Aj bw g (Ai {xs with log:=E} q) g2 (by omega)).trans ai.out);have cr:=Hq (show An (bw.setRow g (Ai {xs with log:=E} q)) {xs with log:=E} q l from by have h1:=aj.out.other (t:=36) J.out (by decide) (by decide) (by decide) (Ai {xs with log:=E} q);exact⟨⟨h1.st.dk,h1.st.dt,h1.st.tx,h1.st.tt⟩,h1.fn,h1.fr,h1.ft⟩);generalize bw.setRow g (Ai {xs with log:=E} q)=w11 at b4 cp cq cr ⊢;clear H9 b3 aa bu ae J ai aj a8
     try simp only[Act.put]
     by_cases bz:e4=0
     case neg=>
      have hs:(e4 != 0)=true:=(by rw[bne_iff_ne];exact bz);have I:=Hq (show X=⟨s,fs,e4⟩from by rw[ak.out,if_pos bz]);clear bz ak
      go_wp2_with(first|with_reducible refine lL b4.out.Ag Ak ?_|with_reducible refine lS (Ai s p) b4.out.Ax ?_)
      refine rT2 (.int .i64 e4) b4.out.Ax Ak ?_;exact a7.out _ (b4.out.row 2 (Ai s p) _ rfl).below e4 I.out
     have hs:(e4 != 0)=false:=(by rw[bz];rfl);have fk:=ak.out;rw[if_neg (fun Z=>Z bz)]at fk;have fl:=Hq fk;clear bz fk ak;have fm:=Hq (fun W=>Jg b d (by have:=Fa iy.out;omega) W);generalize Cj b d=z at fm fl
     go_upto_region 22 with(go_at_call 20;refine(fm.out _).mono ?_;rintro e an ⟨rfl,ao⟩;have ht:=Hq (b4.out.step ao);have ee:=Hq (Ac cp.out ao);have aq:=Hq (Ac cq.out ao);have ef:=Hq (cr.out.below ao);have ar:=Hq (Bs 1 aq.out (.string z));have fi:=show an.cell? ⟨g2,1,none⟩=some (.string f.bytes)from(by rw[Aa aq.out];rfl);have fj:=Ao aq.out 1;have j6:=show(an.setCell ⟨g2,1,none⟩ (.string z)).cell? ⟨g2,3,none⟩=some (.bool f.mark)from(by rw[Aa ar.out];rfl);have j7:=Ao ar.out 3)
     have ct:=Hq (show((an.setCell ⟨g2,1,none⟩ (.string z)).setCell ⟨g2,3,none⟩ (.bool true)).heap[g2]? =some (.cells (Cg ⟨f.page,z,f.pins,true,y⟩) 116 (0,0))from by have:=Bs 3 ar.out (.bool true);simpa using this);have cu:Below g2 an ((an.setCell ⟨g2,1,none⟩ (.string z)).setCell ⟨g2,3,none⟩ (.bool true)):=((show Below g2 an an from⟨rfl,rfl,rfl,Nat.le_refl _,fun _ _=>rfl⟩).setCell (p:=⟨g2,1,none⟩) (Nat.le_refl _) (.string z)).setCell (p:=⟨g2,3,none⟩) (Nat.le_refl _) (.bool true);have fo:=Hq (ht.out.under (M:=g2) (by simp;omega) cu);have b9:=Hq ((cu.block g (by omega)).trans ee.out);have cv:=Hq (((ef.out.own aq.out (fun ad e=>by have:=e0.out ad e;omega) 1 (.string z))).own ar.out (fun ad e=>by have:=e0.out ad e;omega) 3 (.bool true));generalize (an.setCell ⟨g2,1,none⟩ (.string z)).setCell ⟨g2,3,none⟩ (.bool true)=w14 at fo b9 ct cv ⊢;clear b4 cp cq cr ht ee aq ef ar fi fj j6 j7 ao cu fm;have hv:=Hq (fun W hp=>Gx {xs with log:=E} q l iq xk ca ⟨f.page,z,f.pins,true,y⟩ W hp)
     go_upto_region 23 with(first
      |with_reducible refine lL b9.out Ak ?_
      |with_reducible refine lL ct.out Cw ?_
      |(go_at_call 146;refine(hv.out _ cv.out).mono ?_;rintro e fp ⟨P,rfl,eg,cw⟩;have hz:=Hq (fo.out.step cw);have ba:=Hq (Ac b9.out cw))
      |with_reducible refine lS (Ai {xs with log:=E} P) ba.out ?_)
     have fq:=Hq (hz.out.under (M:=g) (by simp;omega) (Fj (g:=g) (Nat.le_refl g) (show Below g fp fp from⟨rfl,rfl,rfl,Nat.le_refl _,fun _ _=>rfl⟩) (Ai {xs with log:=E} P)));have au:=Hq (setRow_heap _ _ _ (Ai {xs with log:=E} P) _ _ ba.out);have a1:=Hq (eg.other (t:=36) ba.out (by decide) (by decide) (by decide) (Ai {xs with log:=E} P));generalize fp.setRow g (Ai {xs with log:=E} P)=w16 at fq au a1 ⊢;clear fo b9 ct cv hz ba eg cw hv
     try simp only[Act.put]
     have H:=show w16.cell? ⟨g,13,none⟩=some (.slice P.T xs.txns.length P.tc)from(by rw[Aa au.out];rfl);have jh:xs.txns.length≤800000:=(by rw[eb.out];exact ik);have cx:=Hq (And.intro a1.out.st.dt.lt a1.out.ft.lt);have ia:=Hq (bZ xs.txns (by omega) P.T P.tc w16 a1.out.st.tx)
     go_upto_region 24 with(go_at_call 180;(refine ia.out.mono ?_);rintro e cy ⟨v,rfl,ho,bb⟩;obtain⟨g4,c4,rfl,ea⟩:=Ol ho (by omega);have ib:=Hq (fq.out.step bb);have av:=Hq (Ac au.out bb);have ic:=show cy.cell? ⟨g,13,none⟩=some (.slice P.T xs.txns.length P.tc)from(by rw[Aa av.out];rfl);have ie:=Ao av.out 13)
     have aw:g<w16.heap.size:=C0 au.out;have ji:g<g4:=(by omega);have ig:=Hq (ib.out.under (M:=g) (by simp;omega) ((show Below g cy cy from⟨rfl,rfl,rfl,Nat.le_refl _,fun _ _=>rfl⟩).setCell (p:=⟨g,13,none⟩) (Nat.le_refl _) (.slice (some ⟨g4,0,none⟩) xs.txns.length c4)));have cz:=Hq (show(cy.setCell ⟨g,13,none⟩ (.slice (some ⟨g4,0,none⟩) xs.txns.length c4)).heap[g]? =some (.cells (Ai {xs with log:=E} {P with T:=some ⟨g4,0,none⟩,tc:=c4}) 36 (0,0))from by have:=Bs 13 av.out (.slice (some ⟨g4,0,none⟩) xs.txns.length c4);simpa using this);have da:=Hq (Ja ho ⟨g,13,none⟩ (.slice (some ⟨g4,0,none⟩) xs.txns.length c4) aw);have eh:=Hq (a1.out.below bb);have db:=Hq (eh.out.set av.out (by decide) (by decide) (by decide) 13 (.slice (some ⟨g4,0,none⟩) xs.txns.length c4));generalize cy.setCell ⟨g,13,none⟩ (.slice (some ⟨g4,0,none⟩) xs.txns.length c4)=ax at ig cz da db ⊢;clear H ic ie fq au a1 ib av eh ia ho bb;generalize w16.heap.size=M at da ea aw cx
     try simp only[Act.put]
     obtain⟨y1,fu⟩:=ex ({xs.txns[i]with last:=d}:Rc.Ci);obtain⟨y2,fv⟩:=ex ({y1 with next:=d}:Rc.Ci);have fw:i<(xs.txns.set i y1).length:=(by rw[List.length_set];exact cn);have dc:Lb y2=(Lb (xs.txns.set i y1)[i]).set 2 (.int .i64 d):=(by rw[List.getElem_set_self,fv];rfl);have dd:Lb y1=(Lb xs.txns[i]).set 1 (.int .i64 d):=(by rw[fu];rfl);have ih:=Hq (show(xs.txns.set i y1).set i y2=xs.txns.set i {xs.txns[i]with last:=d,next:=d}from by rw[List.set_set,fv,fu]);clear fu fv
     go_cut [128] (fun x wc=>∃ ts,ts=(xs.txns.set i y1).set i y2∧wc.ownsRow M 134 4 (.slice (some ⟨g4,0,none⟩) xs.txns.length c4) xs.txns.length (ts.flatMap Lb)∧Below M ax wc)
     case first=>
      have hQ:Below M ax ax.drew:=(show Below M ax ax from⟨rfl,rfl,rfl,Nat.le_refl _,fun _ _=>rfl⟩).drew;have hO:=Cm da.out (Below.refl _ ax).drew;have fx:=Hq (fun(u:World) (hu:Below M ax u)=>show u.cell? ⟨g,13,none⟩=some (.slice (some ⟨g4,0,none⟩) xs.txns.length c4)from by rw[hu.cell (p:=⟨g,13,none⟩) aw,Aa cz.out];rfl);have hSn:=fx.out _ hQ;refine E4 (S:=(fun u=>u.cell? ⟨g,13,none⟩=some (.slice (some ⟨g4,0,none⟩) xs.txns.length c4))) (fun b5=>?_);generalize ax.drew=w8 at hSn hO hQ ⊢;refine Au 0 ?_ (hy:=by
       intro u c;have O:=c;clear c;go_simp;(try with_reducible rfl))
      refine Au 1 ?_ (hy:=by
       intro u c;have O:=c;clear c;go_simp;(try with_reducible rfl))
      refine Au 2 ?_ (hy:=by
       intro u c;have O:=c;clear c;go_simp;(try with_reducible rfl))
      refine Au 3 ?_ (hy:=by
       intro u c;have O:=c;clear c;go_simp;(try with_reducible rfl))
      refine Au 4 ?_ (hy:=by
       intro u c;have O:=c;clear c;go_simp;(try with_reducible rfl))
      refine Au 5 ?_ (hy:=by
       intro u c;have O:=c;clear c;go_simp;(try with_reducible rfl))
      refine Au 6 ?_ (hy:=by
       intro u c;have O:=c;clear c;go_simp;(try with_reducible rfl))
      refine Au 7 ?_ (hy:=by
       intro u c;have O:=c;clear c;go_simp;(try with_reducible rfl))
      refine Au 8 ?_ (hy:=by
       intro u c;have O:=c;clear c;go_simp;(try with_reducible rfl))
      refine Au 9 ?_ (hy:=by
       intro u c;have O:=c;clear c;go_simp;(try with_reducible rfl))
      refine Bx 10 fun K hK=>?_;obtain⟨c6,de,ay⟩:=L3 hO rfl i cn 1 (by omega) (.int .i64 d) y1 dd;have df:=hQ.setCell (p:=⟨g4,i*4+1,none⟩) ea (.int .i64 d)
      go_simp
      clear hSn hO hQ c6 de;have hQ:=df;have hO:=ay;clear df ay;generalize w8.setCell ⟨g4,i*4+1,none⟩ (.int .i64 d)=w3 at hQ hO ⊢;have hSn:=fx.out _ hQ;refine Bl hK (fun b5=>?_);clear hK K;refine Au 11 ?_ (hy:=by
       intro u c;have O:=c;clear c;go_simp;(try with_reducible rfl))
      refine Au 12 ?_ (hy:=by
       intro u c;have O:=c;clear c;go_simp;(try with_reducible rfl))
      refine Bx 13 fun K hK=>?_;obtain⟨c6,de,ay⟩:=L3 hO (by rw[List.length_set]) i fw 2 (by omega) (.int .i64 d) y2 dc;have df:=hQ.setCell (p:=⟨g4,i*4+2,none⟩) ea (.int .i64 d)
      go_simp
      clear hSn hO hQ c6 de;have hQ:=df;have hO:=ay;clear df ay;generalize w3.setCell ⟨g4,i*4+2,none⟩ (.int .i64 d)=w4 at hQ hO ⊢;have hSn:=fx.out _ hQ;refine Bl hK (fun b5=>?_);clear hK K;refine wpAnyH_done Kr ?_ _;clear b5;go_wp2_with fail;go_meet
      case rel=>exact⟨_,rfl,hO,hQ⟩
     case rest=>
      obtain⟨ts,dh,ei,bc⟩:=hcut;obtain⟨c7,rfl⟩:=ex wc;have ej:=Hq dh;have ek:ts.length=xs.txns.length:=(by rw[dh,List.length_set,List.length_set]);have di:=Hq ek;have az:=Hq (ig.out.under (M:=M) (by simp;omega) bc);have bf:=Hq ((bc.block g aw).trans cz.out);have dj:=Hq ei;have dm:=Hq bc;have fg:=show c7.cell? ⟨(w.heap.size+1),3,none⟩=some (.int .i64 A)from(by rw[Aa az.out.Ah];rfl);clear dh ek ei bc;rcases gi.out with rfl|rfl
      ·clear dc dd fw
       go_wp2_with(first
        |with_reducible refine lL bf.out Ak ?_
        |with_reducible refine lS (Ai {xs with log:=E} {P with T:=some ⟨g4,0,none⟩,tc:=c4}) az.out.Ax ?_)
       refine rT2 (.int .i64 0) az.out.Ax Ak ?_;have fy:(Value.agg (Ai {xs with log:=E} {P with T:=some ⟨g4,0,none⟩,tc:=c4}))=Af {xs with log:=E,txns:=ts} {P with T:=some ⟨g4,0,none⟩,tc:=c4}:=(by dsimp only[Af,Ai];rw[di.out]);have b6:=dj.out;rw[← di.out]at b6;have dn:=db.out.upto cx.out.1 cx.out.2 dm.out (Dq b6) ((C4.own b6).mono (Nat.zero_le _));have dp:=dn.other (t:=36) az.out.Ax (by decide) (by decide) (by decide) (Ai {xs with log:=E} {P with T:=some ⟨g4,0,none⟩,tc:=c4});have fz:=(az.out.row 2 (Ai {xs with log:=E} {P with T:=some ⟨g4,0,none⟩,tc:=c4}) _ rfl).below;rw[fy];have ga:X=⟨{xs with log:=E,txns:=ts},l.set xk ⟨f.page,z,f.pins,true,y⟩,0⟩:=by
        rw[fl.out,ej.out,ih.out,hc.out];rfl
       exact du.out ⟨{xs with log:=E,txns:=ts},l.set xk ⟨f.page,z,f.pins,true,y⟩,0⟩ ga _ _ dp fz
      ·have ij:i<ts.length:=by rw[di.out];exact cn
       obtain⟨y3,gb⟩:=ex ({ts[i]with next:=C}:Rc.Ci);have j8:=Hq (show ts.set i y3=xs.txns.set i {xs.txns[i]with last:=d,next:=C}from by
        have key:∀ L (e:L=(xs.txns.set i y1).set i y2) (h:i<L.length),L.set i {L[i]with next:=C}=(xs.txns.set i {xs.txns[i]with last:=d,next:=d}).set i {xs.txns[i]with last:=d,next:=C}:=fun L e h=>by
         subst e;simp only[ih.out,List.getElem_set_self]
        rw[gb,key ts ej.out ij,List.set_set])
       obtain⟨c6,de,ay⟩:=L3 dj.out di.out i ij 2 (by omega) (.int .i64 C) y3 (by rw[gb];rfl);have en:=c6.trans (show(Lb ts[i])[2]? =some (.int .i64 ts[i].next)from rfl);have H:=show c7.cell? ⟨g,13,none⟩=some (.slice (some ⟨g4,0,none⟩) xs.txns.length c4)from(by rw[Aa bf.out];rfl);have j9:=show c7.cell? ⟨(w.heap.size+1),5,none⟩=some (.int .i64 C)from(by rw[Aa az.out.Ah];rfl);generalize ts[i].next=onx at en;clear c6 gb dc dd fw;go_upto_region 27 with fail;have bg:=(show Below M c7 c7 from⟨rfl,rfl,rfl,Nat.le_refl _,fun _ _=>rfl⟩).setCell (p:=⟨g4,i*4+2,none⟩) ea (.int .i64 C);have eo:=Hq (dm.out.trans bg);have dq:=Hq (az.out.under (M:=M) (by simp;omega) bg);have ep:=Hq ((bg.block g aw).trans bf.out);have er:=Hq ay;have et:=Hq (show(ts.set i y3).length=xs.txns.length from by rw[List.length_set];exact di.out);generalize c7.setCell ⟨g4,i*4+2,none⟩ (.int .i64 C)=w20 at eo dq ep er ⊢;clear bg ay de en H j9 az bf dj dm fg
       go_wp2_with(first
        |with_reducible refine lL ep.out Ak ?_
        |with_reducible refine lS (Ai {xs with log:=E} {P with T:=some ⟨g4,0,none⟩,tc:=c4}) dq.out.Ax ?_)
       refine rT2 (.int .i64 0) dq.out.Ax Ak ?_;have fy:(Value.agg (Ai {xs with log:=E} {P with T:=some ⟨g4,0,none⟩,tc:=c4}))=Af {xs with log:=E,txns:=(ts.set i y3)} {P with T:=some ⟨g4,0,none⟩,tc:=c4}:=(by dsimp only[Af,Ai];rw[et.out]);have b6:=er.out;rw[← et.out]at b6;have dn:=db.out.upto cx.out.1 cx.out.2 eo.out (Dq b6) ((C4.own b6).mono (Nat.zero_le _));have dp:=dn.other (t:=36) dq.out.Ax (by decide) (by decide) (by decide) (Ai {xs with log:=E} {P with T:=some ⟨g4,0,none⟩,tc:=c4});have fz:=(dq.out.row 2 (Ai {xs with log:=E} {P with T:=some ⟨g4,0,none⟩,tc:=c4}) _ rfl).below;rw[fy];have ga:X=⟨{xs with log:=E,txns:=ts.set i y3},l.set xk ⟨f.page,z,f.pins,true,y⟩,0⟩:=by
        rw[fl.out,j8.out,hc.out];rfl
       exact du.out ⟨{xs with log:=E,txns:=(ts.set i y3)},l.set xk ⟨f.page,z,f.pins,true,y⟩,0⟩ ga _ _ dp fz
  ·rw[decide_eq_false bh]at a6
   have hh:¬ Gh s pg:=fun Z=>bh ⟨Z.1,by have:=Z.2;omega⟩;have I:=Hq (show X=⟨s,fs,1⟩from by rw[hX];unfold D5;rw[if_pos (fun Z=>hh Z.2)]);clear h hX hW hh bh eu hD dr;generalize Bk X w=Q at a7 ⊢;go_enter Tryz.func107,Tryz.ntmps107;go_upto_region 1 with fail;have G:=Jo w (Ai s p) 36 #[.int .i64 0,.int .i64 0,.int .i64 t,.int .i64 A,.int .i64 pg,.int .i64 C,.int .i64 0,.int .i64 o.kind,.int .i64 o.slot,.string o.Bd,.string o.new,.int .i64 U,.int .i64 rt,.string k.key,.int .i64 k.page,.int .i64 k.slot,.slice none 0 0,.slice none 0 0] 88 #[.int .i64 0,.int .i64 0,.int .i64 0,.slice none 0 0,.int .i64 0,.bool false,.int .i64 0,.int .i64 0,.int .i64 0,.int .i64 0,.string ⟨#[]⟩,.slice none 0 0,.int .i64 0,.slice none 0 0,.int .i64 0] 36;obtain⟨W0,af⟩:=Dr G;rw[← af]at G ⊢;clear af;have dw:=show W0.cell? ⟨(w.heap.size+1),3,none⟩=some (.int .i64 A)from(by rw[Aa G.out.Ah];rfl);have bk:=show W0.cell? ⟨(w.heap.size+1),4,none⟩=some (.int .i64 pg)from by rw[Aa G.out.Ah];rfl
   go_cut [27] (fun x wc=>x= .bool true∧Bw W0 wc)
   case first=>
    rcases R with rfl|rfl
    ·go_wp2_with(first|with_reducible refine lL G.out.Ag Ak ?_|(go_at_call 145;refine(a6.out _).mono ?_;rintro e w1 ⟨rfl,b1⟩))
     go_meet
     case rel=>exact⟨rfl,b1⟩
    ·go_wp2_with(first|with_reducible refine lL G.out.Ag Ak ?_|(go_at_call 145;refine(a6.out _).mono ?_;rintro e w1 ⟨rfl,b1⟩))
     go_meet
     case rel=>exact⟨rfl,b1⟩
   case rest=>
    obtain⟨rfl,cc⟩:=hcut;obtain⟨w1,rfl⟩:=ex wc;have H1:=Hq (G.out.step cc);clear cc G a6 dw bk
    go_wp2_with(first|with_reducible refine lL H1.out.Ag Ak ?_|with_reducible refine lS (Ai s p) H1.out.Ax ?_)
    refine rT2 (.int .i64 1) H1.out.Ax Ak ?_;exact a7.out _ (H1.out.row 2 (Ai s p) _ rfl).below 1 I.out
 ·have I:=Hq (show X=⟨s,fs,1⟩from by rw[hX];unfold D5;rw[if_pos (fun Z=>R Z.1)])
  have jj:(A != 2)=true:=by rw[bne_iff_ne];exact fun e=>R (.inl e)
  have dw:(A != 3)=true:=by rw[bne_iff_ne];exact fun e=>R (.inr e)
  clear h hX hW eu hD dr R a6;generalize Bk X w=Q at a7 ⊢;go_enter Tryz.func107,Tryz.ntmps107;go_upto_region 1 with fail;have G:=Jo w (Ai s p) 36 #[.int .i64 0,.int .i64 0,.int .i64 t,.int .i64 A,.int .i64 pg,.int .i64 C,.int .i64 0,.int .i64 o.kind,.int .i64 o.slot,.string o.Bd,.string o.new,.int .i64 U,.int .i64 rt,.string k.key,.int .i64 k.page,.int .i64 k.slot,.slice none 0 0,.slice none 0 0] 88 #[.int .i64 0,.int .i64 0,.int .i64 0,.slice none 0 0,.int .i64 0,.bool false,.int .i64 0,.int .i64 0,.int .i64 0,.int .i64 0,.string ⟨#[]⟩,.slice none 0 0,.int .i64 0,.slice none 0 0,.int .i64 0] 36;obtain⟨W0,af⟩:=Dr G;rw[← af]at G ⊢;clear af;have bk:=show W0.cell? ⟨(w.heap.size+1),3,none⟩=some (.int .i64 A)from(by rw[Aa G.out.Ah];rfl);go_upto_region 2 with fail
  go_wp2_with(first|with_reducible refine lL G.out.Ag Ak ?_|with_reducible refine lS (Ai s p) G.out.Ax ?_)
  refine rT2 (.int .i64 1) G.out.Ax Ak ?_;exact a7.out _ (G.out.row 2 (Ai s p) _ rfl).below 1 I.out
end Go.Proofs.YtmldoihahndcgaaGreatDoor
