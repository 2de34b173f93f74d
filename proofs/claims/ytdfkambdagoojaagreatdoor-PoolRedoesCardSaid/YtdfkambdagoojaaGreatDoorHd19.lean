import Derived.Test.YtdfkambdagoojaaGreatDoorHd00
import Derived.Test.YtdfkambdagoojaaGreatDoorHd06
set_option maxRecDepth 100000
set_option maxHeartbeats 16000000
set_option linter.unusedSimpArgs false
namespace Go.Proofs.YtdfkambdagoojaaGreatDoor
open Go.RowKit
theorem dV (s:ByteArray)(a size:Nat)(b:¬ a+size≤s.size)(c:s.size≤281474976710656)(d:a≤281474976710656)(w:World):
 Cq 147 #[s,.int .i64 (a:Int),.int .i64 (size:Int)] w fun e w'=>e= .returned (.bool false)∧w=w':=by
 have f:IntKind.i64.wrap ((s.size:Int)-(a:Int))=(s.size:Int)-(a:Int):=IntWalk.i64_in _ (by omega)
 by_cases g:(a:Int)≤(s.size:Int)
 ·have h:¬ (size:Int)≤(s.size:Int)-(a:Int):=by omega
  go_enter Tryz.func147,Tryz.ntmps147;go_wp2_with fail;go_ret;exact⟨by simp;try omega,rfl⟩
 ·go_enter Tryz.func147,Tryz.ntmps147
  go_wp2_with fail;go_ret;exact⟨by simp;try omega,rfl⟩
theorem Zn (s:ByteArray)(a size:Nat)(c:1≤size)(d:size≤8)(b:¬ a+size≤s.size)(f:s.size≤281474976710656)(g:a≤281474976710656)(w:World):
 Cq 100 #[s,.int .i64 (a:Int),.int .i64 (size:Int)] w fun e w'=>e= .returned (.tuple #[(),false])∧w=w':=by
 have h:=Hq (fun W=>dV s a size b f g W);have i:¬ (size:Int)<1:=by omega
 have j:¬ (8:Int)<(size:Int):=by omega
 go_enter Tryz.func100,Tryz.ntmps100
 go_wp2_with(go_at_call 147;(with_reducible refine(h.out _).mono ?_);rintro e k ⟨rfl,rfl⟩)
 go_ret2;exact⟨rfl,rfl⟩
abbrev iC (s:ByteArray)(a:Nat)(bad:Bool):Array Value:=#[s,.int .i64 (a:Int),bad]
def Zo (s:ByteArray)(y:Int×Rc.St)(b:Nat)(w:World)(e:Ending)(w':World):Prop:=
 e= .returned (.int .i64 y.1)∧w'.heap[b]? =some (.cells (iC s y.2.at_ y.2.bad) 173 (0,0))∧C7 w.heap.size b w w'
theorem tN (b:Nat)(s:ByteArray)(a:Nat)(bad:Bool)(k:Nat)(p:1≤k)(q:k≤6)(z:s.size≤1000000000)(f:a+k≤s.size)(n:Nat)(i:Oct.Bq s.data.toList a k=n)(w:World)(l:w.heap[b]? =some (.cells (iC s a bad) 173 (0,0))):
 Cq 148 #[.pointer (some ⟨b,0,none⟩),.int .i64 (k:Int)] w (Zo s ((n:Int),⟨a+k,bad⟩) b w):=by
 have m:Oct.intOf (Oct.Bq s.data.toList a k)=(n:Int):=by
  have r:=Mv s.data.toList a k;have t:256^k≤256^6:=Nat.pow_le_pow_right (by omega) q;have A:Oct.Bq s.data.toList a k<281474976710656:=Nat.lt_of_lt_of_le r t;rw[← i];unfold Oct.intOf;rw[if_pos (by omega)]
 have v:=Hq (fun W=>by(have h:=Nb s a k p (by omega) f (by omega) W);rw[m]at h;exact h);have B:IntKind.i64.wrap ((a:Int)+(k:Int))=((a+k:Nat):Int):=by rw[Int.natCast_add];exact IntWalk.i64_in _ (by omega)
 have x:=Hq l;clear l m i;go_enter Tryz.func148,Tryz.ntmps148;go_upto_region 1 with fail;have d:=Ae x.out (Below.refl _ w).drew;refine Hw (S:=(fun u=>u.heap[b]? =some (.cells (iC s a bad) 173 (0,0)))) (fun c=>?_);refine Be 0 ?_;refine Be 1 ?_;refine Be 2 ?_;refine Be 3 ?_;refine Be 4 ?_;refine Be 5 ?_;refine Be 6 ?_;refine Be 7 ?_;refine Be 8 ?_;refine D3 9 fun K o=>?_
 go_simp
 refine(v.out _).mono ?_;rintro e C ⟨rfl,rfl⟩;have hSn:=d;refine Db o (fun c=>?_);clear o K;refine Be 10 ?_;refine Be 11 ?_;refine Be 12 ?_;refine Be 13 ?_;refine Be 14 ?_;refine wpAnyH_done Kr ?_ _;clear c hSn;have D:=Aa d;have E:=Aj d;go_wp2_with fail;go_ret;have y:=Cb 1 d (.int .i64 ((a+k:Nat):Int));refine⟨rfl,?_,?_⟩
 ·exact y
 ·refine⟨rfl,rfl,rfl,?_,fun j F g=>?_⟩
  ·simp[World.setCell]
  ·exact Below.heap_setCell _ _ _ _ g
theorem xF (b:Nat)(s:ByteArray)(a:Nat)(bad:Bool)(k:Nat)(l:1≤k)(p:k≤6)(q:s.size≤1000000000)(r:a≤2000000000)(f:¬ a+k≤s.size)(w:World)(h:w.heap[b]? =some (.cells (iC s a bad) 173 (0,0))):
 Cq 148 #[.pointer (some ⟨b,0,none⟩),.int .i64 (k:Int)] w (Zo s (0,⟨a,true⟩) b w):=by
 have m:=Hq (fun W=>Zn s a k l (by omega) f (by omega) (by omega) W);have n:=Hq h;clear h;go_enter Tryz.func148,Tryz.ntmps148;go_upto_region 1 with fail;have d:=Ae n.out (Below.refl _ w).drew;refine Hw (S:=(fun u=>u.heap[b]? =some (.cells (iC s a bad) 173 (0,0)))) (fun c=>?_);refine Be 0 ?_;refine Be 1 ?_;refine Be 2 ?_;refine Be 3 ?_;refine Be 4 ?_;refine Be 5 ?_;refine Be 6 ?_;refine Be 7 ?_;refine Be 8 ?_;refine D3 9 fun K i=>?_
 go_simp
 refine(m.out _).mono ?_;rintro e t ⟨rfl,rfl⟩;have hSn:=d;refine Db i (fun c=>?_);clear i K;refine Be 10 ?_;refine Be 11 ?_;refine Be 12 ?_;refine Be 13 ?_;refine Be 14 ?_;refine wpAnyH_done Kr ?_ _;clear c hSn;have v:=Aa d;have x:=Aj d;go_wp2_with fail;go_ret;have o:=Cb 2 d (.bool true);refine⟨rfl,?_,?_⟩
 ·exact o
 ·refine⟨rfl,rfl,rfl,?_,fun j y g=>?_⟩
  ·simp[World.setCell]
  ·exact Below.heap_setCell _ _ _ _ g
theorem dW (b:Nat)(s:ByteArray)(x:Rc.St)(k:Nat)(e:1≤k)(f:k≤6)(g:s.size≤1000000000)(i:x.at_≤2000000000)(w:World)(h:w.heap[b]? =some (.cells (iC s x.at_ x.bad) 173 (0,0))):
 Cq 148 #[.pointer (some ⟨b,0,none⟩),.int .i64 (k:Int)] w (Zo s (Rc.Bm false s.data.toList x k) b w):=by
 obtain⟨a,bad⟩:=x;have j:s.data.toList.length=s.size:=by simp
 by_cases c:a+k≤s.size
 ·have d:Rc.Bm false s.data.toList ⟨a,bad⟩ k=(((Oct.Bq s.data.toList a k:Nat):Int),(⟨a+k,bad⟩:Rc.St)):=by unfold Rc.Bm;rw[if_pos (by show a+k≤_;omega)]
  rw[d];exact tN b s a bad k e f g c _ rfl w h
 ·have d:Rc.Bm false s.data.toList ⟨a,bad⟩ k=(0,(⟨a,true⟩:Rc.St)):=by unfold Rc.Bm;rw[if_neg (by show ¬ a+k≤_;omega)];rfl
  rw[d];exact xF b s a bad k e f g i c w h
theorem Zp (s:ByteArray)(a n:Nat)(k:s.size≤1000000000)(f:Oct.Bq s.data.toList a 2=n)(c:a+2+n≤s.size)(w:World):
 Cq 226 #[s,.int .i64 (a:Int)] w fun e w'=>e= .returned (.tuple #[.string (s.extract (a+2) (a+2+n)),.int .i64 ((a+2+n:Nat):Int),true])∧w=w':=by
  have b:=Mv s.data.toList a 2;have d:=Hq (fun W=>Nb s a 2 (by omega) (by omega) (by omega) (by omega) W);rw[f]at b d;have g:n<65536:=by simpa using b
  rw[show Oct.intOf n=(n:Int)from by unfold Oct.intOf;rw[if_pos (by omega)]]at d;clear b f;have i:=Hq (fun W=>show Cq 147 #[s,.int .i64 ((a:Int)+2),.int .i64 (n:Int)] W _ from by(have h:=Wi s.size s (a+2) n rfl c (by omega) W);rw[show((a+2:Nat):Int)=(a:Int)+2 by omega]at h;exact h);have l:IntKind.i64.wrap ((a:Int)+2)=(a:Int)+2:=IntWalk.i64_in _ (by omega);have m:IntKind.i64.wrap ((a:Int)+2+(n:Int))=(a:Int)+2+(n:Int):=IntWalk.i64_in _ (by omega);have g1:(0:Int)≤(a:Int)+2:=by omega
  have g2:(a:Int)+2≤(a:Int)+2+(n:Int):=by omega
  have g3:(a:Int)+2+(n:Int)≤(s.size:Int):=by omega
  have o:((a:Int)+2).toNat=a+2:=by omega
  have p:((a:Int)+2+(n:Int)).toNat=a+2+n:=by omega
  go_enter Tryz.func226,Tryz.ntmps226
  go_wp2_with(first|(go_at_call 100;refine(d.out _).mono ?_;rintro e j ⟨rfl,rfl⟩)|(go_at_call 147;(with_reducible refine(i.out _).mono ?_);rintro e j ⟨rfl,rfl⟩))
  refine bodyPost_ret (v:=.tuple #[.string (s.extract (a+2) (a+2+n)),.int .i64 ((a+2+n:Nat):Int),true]) (by simp[results,Tryz.results226,go_sem]) rfl ⟨rfl,rfl⟩
theorem dX (s:ByteArray)(a:Nat)(k:s.size≤1000000000)(l:a≤2000000000)(c:¬ a+2+Oct.Bq s.data.toList a 2≤s.size)(w:World):
 Cq 226 #[s,.int .i64 (a:Int)] w fun e w'=>e= .returned (.tuple #["",(),false])∧w=w':=by
 by_cases f:a+2≤s.size
 ·have b:=Mv s.data.toList a 2
  have d:=Hq (fun W=>Nb s a 2 (by omega) (by omega) f (by omega) W);generalize Oct.Bq s.data.toList a 2=n at b d c;have i:n<65536:=by simpa using b
  rw[show Oct.intOf n=(n:Int)from by unfold Oct.intOf;rw[if_pos (by omega)]]at d;clear b;have j:=Hq (fun W=>show Cq 147 #[s,.int .i64 ((a:Int)+2),.int .i64 (n:Int)] W _ from by(have h:=dV s (a+2) n c (by omega) (by omega) W);rw[show((a+2:Nat):Int)=(a:Int)+2 by omega]at h;exact h);have m:IntKind.i64.wrap ((a:Int)+2)=(a:Int)+2:=IntWalk.i64_in _ (by omega);go_enter Tryz.func226,Tryz.ntmps226
  go_wp2_with(first|(go_at_call 100;refine(d.out _).mono ?_;rintro e g ⟨rfl,rfl⟩)|(go_at_call 147;(with_reducible refine(j.out _).mono ?_);rintro e g ⟨rfl,rfl⟩))
  refine bodyPost_ret (v:=.tuple #["",(),false]) (by simp[results,Tryz.results226,go_sem]) rfl ⟨rfl,rfl⟩
 ·have d:=Hq (fun W=>Zn s a 2 (by omega) (by omega) f (by omega) (by omega) W)
  go_enter Tryz.func226,Tryz.ntmps226
  go_wp2_with(go_at_call 100;refine(d.out _).mono ?_;rintro e g ⟨rfl,rfl⟩)
  refine bodyPost_ret (v:=.tuple #["",(),false]) (by simp[results,Tryz.results226,go_sem]) rfl ⟨rfl,rfl⟩
def Vv (s:ByteArray)(y:ByteArray×Rc.St)(b:Nat)(w:World)(e:Ending)(w':World):Prop:=
 e= .returned (.string y.1)∧w'.heap[b]? =some (.cells (iC s y.2.at_ y.2.bad) 173 (0,0))∧C7 w.heap.size b w w'
theorem oS (b:Nat)(s:ByteArray)(a:Nat)(bad:Bool)(k:s.size≤1000000000)(n:Nat)(l:Oct.Bq s.data.toList a 2=n)(f:a+2+n≤s.size)(w:World)(h:w.heap[b]? =some (.cells (iC s a bad) 173 (0,0))):
 Cq 197 #[.pointer (some ⟨b,0,none⟩)] w (Vv s (s.extract (a+2) (a+2+n),⟨a+2+n,bad⟩) b w):=by
 have m:=Hq (fun W=>Zp s a n k l f W);have o:=Hq h;clear h;go_enter Tryz.func197,Tryz.ntmps197;go_upto_region 1 with fail;have d:=Ae o.out (Below.refl _ w).drew;refine Hw (S:=(fun u=>u.heap[b]? =some (.cells (iC s a bad) 173 (0,0)))) (fun c=>?_);refine Be 0 ?_;refine Be 1 ?_;refine Be 2 ?_;refine Be 3 ?_;refine Be 4 ?_;refine Be 5 ?_;refine Be 6 ?_;refine Be 7 ?_;refine D3 8 fun K i=>?_
 go_simp
 refine(m.out _).mono ?_;rintro e q ⟨rfl,rfl⟩;have hSn:=d;refine Db i (fun c=>?_);clear i K;refine Be 9 ?_;refine Be 10 ?_;refine Be 11 ?_;refine Be 12 ?_;refine Be 13 ?_;refine Be 14 ?_;refine Be 15 ?_;refine wpAnyH_done Kr ?_ _;clear c hSn;have r:=Aa d;have t:=Aj d;go_wp2_with fail;go_ret;have p:=Cb 1 d (.int .i64 ((a+2+n:Nat):Int));refine⟨rfl,?_,?_⟩
 ·exact p
 ·refine⟨rfl,rfl,rfl,?_,fun j v g=>?_⟩
  ·simp[World.setCell]
  ·exact Below.heap_setCell _ _ _ _ g
theorem tO (b:Nat)(s:ByteArray)(a:Nat)(bad:Bool)(k:s.size≤1000000000)(l:a≤2000000000)(f:¬ a+2+Oct.Bq s.data.toList a 2≤s.size)(w:World)(h:w.heap[b]? =some (.cells (iC s a bad) 173 (0,0))):
 Cq 197 #[.pointer (some ⟨b,0,none⟩)] w (Vv s (⟨#[]⟩,⟨a,true⟩) b w):=by
 have m:=Hq (fun W=>dX s a k l f W);have n:=Hq h;clear h;go_enter Tryz.func197,Tryz.ntmps197;go_upto_region 1 with fail;have d:=Ae n.out (Below.refl _ w).drew;refine Hw (S:=(fun u=>u.heap[b]? =some (.cells (iC s a bad) 173 (0,0)))) (fun c=>?_);refine Be 0 ?_;refine Be 1 ?_;refine Be 2 ?_;refine Be 3 ?_;refine Be 4 ?_;refine Be 5 ?_;refine Be 6 ?_;refine Be 7 ?_;refine D3 8 fun K i=>?_
 go_simp
 refine(m.out _).mono ?_;rintro e p ⟨rfl,rfl⟩;have hSn:=d;refine Db i (fun c=>?_);clear i K;refine Be 9 ?_;refine Be 10 ?_;refine Be 11 ?_;refine Be 12 ?_;refine Be 13 ?_;refine Be 14 ?_;refine Be 15 ?_;refine wpAnyH_done Kr ?_ _;clear c hSn;have q:=Aa d;have r:=Aj d;go_wp2_with fail;go_ret;have o:=Cb 2 d (.bool true);refine⟨rfl,?_,?_⟩
 ·exact o
 ·refine⟨rfl,rfl,rfl,?_,fun j t g=>?_⟩
  ·simp[World.setCell]
  ·exact Below.heap_setCell _ _ _ _ g
theorem oT (b:Nat)(s:ByteArray)(x:Rc.St)(e:s.size≤1000000000)(g:x.at_≤2000000000)(w:World)(f:w.heap[b]? =some (.cells (iC s x.at_ x.bad) 173 (0,0))):
 Cq 197 #[.pointer (some ⟨b,0,none⟩)] w (Vv s (Rc.Ib s.data.toList x) b w):=by
 obtain⟨a,bad⟩:=x;have h:s.data.toList.length=s.size:=by simp
 by_cases c:a+2+Oct.Bq s.data.toList a 2≤s.size
 ·have d:Rc.Ib s.data.toList ⟨a,bad⟩=(s.extract (a+2) (a+2+Oct.Bq s.data.toList a 2),(⟨a+2+Oct.Bq s.data.toList a 2,bad⟩:Rc.St)):=by
   unfold Rc.Ib;rw[if_pos (by show a+2+Oct.Bq s.data.toList a 2≤_;omega)]
   congr 1
   apply ByteArray.ext
   rw[ByteArray.data_extract]
   apply Array.toList_inj.1
   rw[Array.toList_extract,List.extract_eq_drop_take'];simp only;rw[List.drop_take]
   congr 1
   omega
  rw[d];exact oS b s a bad e _ rfl c w f
 ·have d:Rc.Ib s.data.toList ⟨a,bad⟩=(⟨#[]⟩,(⟨a,true⟩:Rc.St)):=by unfold Rc.Ib;rw[if_neg (by show ¬ a+2+Oct.Bq s.data.toList a 2≤_;omega)]
  rw[d];exact tO b s a bad e g c w f
end Go.Proofs.YtdfkambdagoojaaGreatDoor
namespace Rc
theorem Bn {l:List UInt8}{st a:St}{k:Nat}{n:Int}(h:Bm false l st k=(n,a))(b:st.at_≤l.length):a.at_≤l.length:=by
 unfold Bm at h
 split at h
 ·injection h with _ h;rw[← h];assumption
 ·injection h with _ h;rw[← h];exact b
theorem Tw {l:List UInt8}{st a:St}{t:ByteArray}(h:Ib l st=(t,a))(b:st.at_≤l.length):a.at_≤l.length:=by
 unfold Ib at h
 split at h
 ·injection h with _ h;rw[← h];assumption
 ·injection h with _ h;rw[← h];exact b
end Rc
namespace Go.Proofs.YtdfkambdagoojaaGreatDoor
open Go.RowKit
theorem C7.step {B b:Nat}{w u v:World}(h:C7 B b w u)(_hB:B≤u.heap.size)(a:Below B u v):C7 B b w v:=
 h.trans ⟨a.os,a.tape,a.output,a.size,fun k c _=>a.block k c⟩
structure Ri (w:World) (b:Nat) (s:ByteArray) (st:Rc.St) (l:List (Nat×Array Value×TypeId)) (u:World):Prop where
 rd:u.heap[b]? =some (.cells (iC s st.at_ st.bad) 173 (0,0))
 bw:b<w.heap.size
 kept:C7 w.heap.size b w u
 box:∀ (i:Nat) (p:Nat×Array Value×TypeId),l[i]? =some p→u.heap[p.1]? =some (.cells p.2.1 p.2.2 (0,0))∧w.heap.size≤p.1
 dis:∀ (i j:Nat) (p q:Nat×Array Value×TypeId),l[i]? =some p→l[j]? =some q→i≠j→p.1≠q.1
section
variable {w u v : World} {b : Nat} {s : ByteArray} {st st' : Rc.St} {l : List (Nat × Array Value × TypeId)}
theorem Ri.start (a:w.heap[b]? =some (.cells (iC s st.at_ st.bad) 173 (0,0))):Ri w b s st [] w:=
 ⟨a,C8 a,C7.refl _ _ _,fun i p h=>by simp at h,fun i j p q h=>by simp at h⟩
theorem Ri.Am {g:Nat}{cs:Array Value}{T:TypeId}(h:Ri w b s st ((g,cs,T)::l) u):u.heap[g]? =some (.cells cs T (0,0)):=(h.box 0 _ rfl).1
theorem Ri.As {g:Nat}{cs:Array Value}{T:TypeId}{p:Nat×Array Value×TypeId}(h:Ri w b s st (p::(g,cs,T)::l) u):u.heap[g]? =some (.cells cs T (0,0)):=(h.box 1 _ rfl).1
theorem Ri.L6 (h:Ri w b s st l u)(e:v.heap[b]? =some (.cells (iC s st'.at_ st'.bad) 173 (0,0)))(a:C7 u.heap.size b u v):Ri w b s st' l v:=by
 refine⟨e,h.bw,h.kept.trans ⟨a.os,a.tape,a.output,a.size,fun k c d=>a.block k (Nat.lt_of_lt_of_le c h.kept.size) d⟩,fun i p f=>?_,h.dis⟩;obtain⟨c,d⟩:=h.box i p f;have:=h.bw;exact⟨(a.block _ (C8 c) (by omega)).trans c,d⟩
theorem Ri.step (h:Ri w b s st l u)(a:Bw u v):Ri w b s st l v:=
 h.L6 (Ae h.rd a) ⟨a.os,a.tape,a.output,a.size,fun k c _=>a.block k c⟩
theorem Ri.alloc (h:Ri w b s st l u)(cs:Array Value)(T:TypeId):Ri w b s st (l++[(u.heap.size,cs,T)]) (u.alloc (.cells cs T)):=by
 have c:=h.step (Ag u (.cells cs T));have k:=h.kept.size;have A5:∀ (i:Nat) (p:Nat×Array Value×TypeId),(l++[(u.heap.size,cs,T)])[i]? =some p→(l[i]? =some p∧p.1<u.heap.size)∨(i=l.length∧p=(u.heap.size,cs,T)):=fun i p a=>by
  by_cases m:i<l.length
  ·rw[List.getElem?_append_left m]at a
   exact .inl ⟨a,C8 (h.box i p a).1⟩
  ·rw[List.getElem?_append_right (by omega)]at a
   have n:i-l.length=0:=by
    have:=(List.getElem?_eq_some_iff.1 a).1
    simpa using this
   rw[n]at a;simp only[List.getElem?_cons_zero,Option.some.injEq]at a;exact .inr ⟨by omega,a.symm⟩
 refine⟨c.rd,c.bw,c.kept,fun i p a=>?_,fun i j p q a g f=>?_⟩
 ·rcases A5 i p a with⟨d,_⟩|⟨_,rfl⟩
  ·exact c.box i p d
  ·exact⟨heap_alloc_new u _,k⟩
 ·rcases A5 i p a with⟨d,r⟩|⟨d,rfl⟩
  ·rcases A5 j q g with⟨e,o⟩|⟨e,rfl⟩
   ·exact h.dis i j p q d e f
   ·show p.1≠u.heap.size;omega
  ·rcases A5 j q g with⟨e,o⟩|⟨e,rfl⟩
   ·show u.heap.size≠q.1;omega
   ·omega
theorem Ri.row (h:Ri w b s st l u)(i:Nat)(cs:Array Value)(p:Nat×Array Value×TypeId)(hi:l[i]? =some p):Ri w b s st (l.set i (p.1,cs,p.2.2)) (u.setRow p.1 cs):=by
 have d:=(List.getElem?_eq_some_iff.1 hi).1;obtain⟨x,y⟩:=h.box i p hi;have g:=h.bw;have z:=h.kept.size;have A:Below w.heap.size u (u.setRow p.1 cs):=⟨rfl,rfl,rfl,by show _≤(u.heap.modify _ _).size;simp,fun k F=>Aw _ _ _ _ (by omega)⟩;refine⟨(Aw _ _ _ _ (by omega)).trans h.rd,g,h.kept.step z A,fun j q a=>?_,fun j k q r a B m=>?_⟩
 ·by_cases c:i=j
  ·subst c
   rw[List.getElem?_set_self d]at a
   injection a with a
   subst a;exact⟨setRow_heap _ _ _ _ _ _ x,y⟩
  ·rw[List.getElem?_set_ne c]at a
   obtain⟨C,D⟩:=h.box j q a;exact⟨(Aw _ _ _ _ (h.dis j i q p a hi (fun e=>c e.symm))).trans C,D⟩
 ·have same:∀ (j:Nat) (q:Nat×Array Value×TypeId),(l.set i (p.1,cs,p.2.2))[j]? =some q→∃ f,l[j]? =some f∧f.1=q.1:=fun j q a=>by
   by_cases c:i=j
   ·subst c
    rw[List.getElem?_set_self d]at a
    injection a with a
    exact⟨p,hi,by rw[← a]⟩
   ·rw[List.getElem?_set_ne c]at a
    exact⟨q,a,rfl⟩
  obtain⟨f,n,o⟩:=same j q a;obtain⟨E,t,v⟩:=same k r B;rw[← o,← v];exact h.dis j k f E n t m
theorem Ri.set (h:Ri w b s st l u)(i j:Nat)(x:Value)(p:Nat×Array Value×TypeId)(hi:l[i]? =some p):Ri w b s st (l.set i (p.1,p.2.1.setIfInBounds j x,p.2.2)) (u.setCell ⟨p.1,j,none⟩ x):=by
 rw[setCell_eq_setRow u p.1 j _ _ _ x (h.box i p hi).1];exact h.row i _ p hi
theorem Ri.num {n:Int}(h:Ri w b s st l u)(k:Nat)(c:1≤k)(d:k≤6)(f:Rc.Bm false s.data.toList st k=(n,st'))(i:s.size≤1000000)(j:st.at_≤s.size):
 Cq 148 #[.pointer (some ⟨b,0,none⟩),.int .i64 (k:Int)] u fun e v=>e= .returned (.int .i64 n)∧Ri w b s st' l v:=by
 refine(dW b s st k c d (by omega) (by omega) u h.rd).mono ?_;rintro e v ⟨rfl,a,g⟩;rw[f]at a ⊢;exact⟨rfl,h.L6 a g⟩
theorem Ri.Wa {n:Int}(h:Ri w b s st l u)(a:Rc.Bm false s.data.toList st 1=(n,st'))(c:s.size≤1000000)(d:st.at_≤s.size):
 Cq 148 #[.pointer (some ⟨b,0,none⟩),.int .i64 1] u fun e v=>e= .returned (.int .i64 n)∧Ri w b s st' l v:=h.num 1 (by omega) (by omega) a c d
theorem Ri.Abk {n:Int}(h:Ri w b s st l u)(a:Rc.Bm false s.data.toList st 2=(n,st'))(c:s.size≤1000000)(d:st.at_≤s.size):
 Cq 148 #[.pointer (some ⟨b,0,none⟩),.int .i64 2] u fun e v=>e= .returned (.int .i64 n)∧Ri w b s st' l v:=h.num 2 (by omega) (by omega) a c d
theorem Ri.oU {n:Int}(h:Ri w b s st l u)(a:Rc.Bm false s.data.toList st 3=(n,st'))(c:s.size≤1000000)(d:st.at_≤s.size):
 Cq 148 #[.pointer (some ⟨b,0,none⟩),.int .i64 3] u fun e v=>e= .returned (.int .i64 n)∧Ri w b s st' l v:=h.num 3 (by omega) (by omega) a c d
theorem Ri.Kz {n:Int}(h:Ri w b s st l u)(a:Rc.Bm false s.data.toList st 6=(n,st'))(c:s.size≤1000000)(d:st.at_≤s.size):
 Cq 148 #[.pointer (some ⟨b,0,none⟩),.int .i64 6] u fun e v=>e= .returned (.int .i64 n)∧Ri w b s st' l v:=h.num 6 (by omega) (by omega) a c d
theorem Ri.text {t:ByteArray}(h:Ri w b s st l u)(c:Rc.Ib s.data.toList st=(t,st'))(f:s.size≤1000000)(g:st.at_≤s.size):
 Cq 197 #[.pointer (some ⟨b,0,none⟩)] u fun e v=>e= .returned (.string t)∧Ri w b s st' l v:=by
 refine(oT b s st (by omega) (by omega) u h.rd).mono ?_;rintro e v ⟨rfl,a,d⟩;rw[c]at a ⊢;exact⟨rfl,h.L6 a d⟩
end
def zX (s:ByteArray)(y:Rc.Op×Rc.St)(b:Nat)(w:World)(e:Ending)(w':World):Prop:=
 e= .returned (Ou y.1)∧w'.heap[b]? =some (.cells (iC s y.2.at_ y.2.bad) 173 (0,0))∧C7 w.heap.size b w w'
theorem xG (b:Nat)(s:ByteArray)(x:Rc.St)(p:s.size≤1000000)(T:x.at_≤s.size)(w:World)(G:w.heap[b]? =some (.cells (iC s x.at_ x.bad) 173 (0,0))):
 Cq 150 #[.pointer (some ⟨b,0,none⟩)] w (zX s (Rc.Tb false s.data.toList x) b w):=by
 have U:s.data.toList.length=s.size:=by simp
 rcases q:Rc.Bm false s.data.toList x 1 with⟨k,s1⟩;have H:=Rc.Bn q (by omega);rcases r:Rc.Bm false s.data.toList s1 2 with⟨sl,s2⟩;have a2:=Rc.Bn r H;rcases t:Rc.Ib s.data.toList s2 with⟨a,v⟩;have a3:=Rc.Tw t a2;rcases y:Rc.Ib s.data.toList v with⟨on,I⟩;have J:Rc.Tb false s.data.toList x=(⟨k,sl,a,on⟩,I):=by unfold Rc.Tb;simp only[q,r,t,y]
 rw[J];have K:=Hq (fun l u (c:Ri w b s x l u)=>c.Wa q p T);have L:=Hq (fun l u (c:Ri w b s s1 l u)=>c.Abk r p (by omega));have M:=Hq (fun l u (c:Ri w b s s2 l u)=>c.text t p (by omega));have N:=Hq (fun l u (c:Ri w b s v l u)=>c.text y p (by omega));have z:=Hq ((Ri.start G).alloc #[(),(),"",""] 40);clear q r t y H a2 a3 J G;go_enter Tryz.func150,Tryz.ntmps150;go_upto_region 1 with fail;obtain⟨O,d⟩:=ex w.heap.size;obtain⟨V,f⟩:=ex (w.alloc (.cells #[(),(),"",""] 40));rw[← d,← f]at z;rw[← d,← f];clear d f
 go_upto_region 2 with(first
  |(go_at_call 148;(with_reducible refine(K.out _ _ z.out).mono ?_);rintro e v1 ⟨rfl,h⟩;have H1:=Hq h;clear h)
  |(go_at_call 148;(with_reducible refine(L.out _ _ H1.out).mono ?_);rintro e v2 ⟨rfl,h⟩;have P:=Hq h;clear h)
  |with_reducible refine sN #[k,sl,"",""] ?_)
 have A:=Hq (P.out.alloc #[k,sl,"",""] 40);obtain⟨n,g⟩:=ex v2.heap.size;obtain⟨W,i⟩:=ex (v2.alloc (.cells #[k,sl,"",""] 40));rw[← g,← i]at A;rw[← g,← i];clear g i z H1 P K L
 go_upto_region 3 with(go_at_call 197;(with_reducible refine(M.out _ _ A.out).mono ?_);rintro e v4 ⟨rfl,h⟩;have Q:=Hq h;have B:=Aa h.As;have C:=Aj h.As;clear h)
 have D:=Hq (show Ri w b s v [(O,#[(),(),"",""],40),(n,#[k,sl,a,""],40)] (v4.setCell ⟨n,2,none⟩ (.string a))from by have h:=Q.out.set 1 2 (.string a) _ rfl;simpa using h);obtain⟨X,j⟩:=ex (v4.setCell ⟨n,2,none⟩ (.string a));rw[← j]at D;rw[← j];clear j A Q B C M
 go_upto_region 4 with(go_at_call 197;(with_reducible refine(N.out _ _ D.out).mono ?_);rintro e v6 ⟨rfl,h⟩;have R:=Hq h;have E:=Aa h.As;have F:=Aj h.As;clear h)
 have o:=Hq (show Ri w b s I [(O,#[(),(),"",""],40),(n,#[k,sl,a,on],40)] (v6.setCell ⟨n,3,none⟩ (.string on))from by have h:=R.out.set 1 3 (.string on) _ rfl;simpa using h);obtain⟨Y,m⟩:=ex (v6.setCell ⟨n,3,none⟩ (.string on));rw[← m]at o;rw[← m];clear m D R E F N
 go_wp2_with(first
  |with_reducible refine lL o.out.As fC ?_
  |with_reducible refine lS #[k,sl,a,on] o.out.Am ?_)
 refine rT1 o.out.Am fC ?_;have S:=o.out.row 0 #[k,sl,a,on] _ rfl;exact⟨rfl,S.rd,S.kept⟩
end Go.Proofs.YtdfkambdagoojaaGreatDoor
namespace Rc
theorem Xu {l:List UInt8}{st a:St}{o:Op}(h:Tb false l st=(o,a))(f:st.at_≤l.length):a.at_≤l.length:=by
 unfold Tb at h;rcases b:Bm false l st 1 with⟨k,s1⟩;have g:=Bn b f;rcases c:Bm false l s1 2 with⟨sl,s2⟩;have a2:=Bn c g;rcases d:Ib l s2 with⟨j,i⟩;have a3:=Tw d a2;rcases e:Ib l i with⟨on,m⟩;have a4:=Tw e a3;simp only[b,c,d,e]at h
 injection h with _ h
 rw[← h];exact a4
end Rc
namespace Go.Proofs.YtdfkambdagoojaaGreatDoor
open Go.RowKit
theorem Ri.op {w u:World}{b:Nat}{s:ByteArray}{st a:Rc.St}{l:List (Nat×Array Value×TypeId)}{o:Rc.Op}(h:Ri w b s st l u)(d:Rc.Tb false s.data.toList st=(o,a))(f:s.size≤1000000)(g:st.at_≤s.size):
 Cq 150 #[.pointer (some ⟨b,0,none⟩)] u fun e v=>e= .returned (Ou o)∧Ri w b s a l v:=by
 refine(xG b s st f g u h.rd).mono ?_;rintro e v ⟨rfl,c,i⟩;rw[d]at c ⊢;exact⟨rfl,h.L6 c i⟩
def kS (s:ByteArray)(r:Rc.Rec)(st:Rc.St)(T D:Value)(b:Nat)(w:World)(e:Ending)(w':World):Prop:=
 e= .returned (Dp r T D)∧w'.heap[b]? =some (.cells (iC s st.at_ st.bad) 173 (0,0))∧C7 w.heap.size b w w'
theorem oV (b:Nat)(s:ByteArray)(st:Rc.St)(C:s.size≤1000000)(Y:st.at_≤s.size)(a prev f kind Ab next k ok os i root p es:Int)(y on q:ByteArray)(Z:List Rc.Cw)(ds:List Rc.Cx)(r t:Option Addr)(n c m d:Nat){pg:Int}{s1 s2 D:Rc.St}{o:Rc.Op}(E:Rc.Bm false s.data.toList st 3=(pg,s1))(F:Rc.Tb false s.data.toList s1=(o,s2))(G:Rc.Bm false s.data.toList s2 1=(1,D))(w:World)(P:w.heap[b]? =some (.cells (iC s st.at_ st.bad) 173 (0,0))):
 Cq 149 #[.pointer (some ⟨b,0,none⟩),.agg (Bt a prev f kind Ab next k ok os y on i root q p es (.slice r n c) (.slice t m d))] w (kS s ⟨a,prev,f,kind,pg,next,k,⟨o.kind,o.slot,o.A5,o.new⟩,1,root,⟨q,p,es⟩,Z,ds⟩ D (.slice r n c) (.slice t m d) b w):=by
 have hl:s.data.toList.length=s.size:=by simp
 have Q:=Rc.Bn E (by omega);have a2:=Rc.Xu F Q;have a3:=Rc.Bn G a2;have R:=Hq (fun l u (z:Ri w b s st l u)=>z.oU E C Y);have S:=Hq (fun l u (z:Ri w b s s1 l u)=>z.op F C (by omega));have T:=Hq (fun l u (z:Ri w b s s2 l u)=>z.Wa G C (by omega));clear E F G Q a2 a3;have B:=Hq (((Ri.start P).alloc (Bt a prev f kind Ab next k ok os y on i root q p es (.slice r n c) (.slice t m d)) 47).alloc Dl 47);clear P;go_enter Tryz.func149,Tryz.ntmps149;go_upto_region 1 with fail;obtain⟨g,H⟩:=ex w.heap.size;obtain⟨W0,v⟩:=ex ((w.alloc (.cells (Bt a prev f kind Ab next k ok os y on i root q p es (.slice r n c) (.slice t m d)) 47)).alloc (.cells Dl 47));have A:(w.alloc (.cells (Bt a prev f kind Ab next k ok os y on i root q p es (.slice r n c) (.slice t m d)) 47)).heap.size=w.heap.size+1:=by simp
 simp only[List.nil_append,List.singleton_append,A]at B;rw[← H,← v]at B;rw[← H,← v];clear H v A
 go_upto_region 2 with(go_at_call 148;(with_reducible refine(R.out _ _ B.out).mono ?_);rintro e v0 ⟨rfl,h⟩;(try dsimp only[Ou]);have U:=Hq h;have I:=Aa h.Am;have J:=Aj h.Am;clear h)
 have H1:=Hq (show Ri w b s s1 [(g,(Bt a prev f kind pg next k ok os y on i root q p es (.slice r n c) (.slice t m d)),47),(g+1,Dl,47)] (v0.setCell ⟨g,4,none⟩ (.int .i64 pg))from by have h:=(U.out.set 0 4 (.int .i64 pg) _ rfl);simpa using h);obtain⟨W1,j⟩:=ex (v0.setCell ⟨g,4,none⟩ (.int .i64 pg));rw[← j]at H1;rw[← j];clear j B U I J R
 go_upto_region 3 with(go_at_call 150;(with_reducible refine(S.out _ _ H1.out).mono ?_);rintro e v1 ⟨rfl,h⟩;(try dsimp only[Ou]);have V:=Hq h;have K:=Aa h.Am;have L:=Aj h.Am;clear h)
 have M:=Hq (show Ri w b s s2 [(g,(Bt a prev f kind pg next k o.kind o.slot o.A5 o.new i root q p es (.slice r n c) (.slice t m d)),47),(g+1,Dl,47)] ((((v1.setCell ⟨g,7,none⟩ (.int .i64 o.kind)).setCell ⟨g,8,none⟩ (.int .i64 o.slot)).setCell ⟨g,9,none⟩ (.string o.A5)).setCell ⟨g,10,none⟩ (.string o.new))from by have h:=((((V.out.set 0 7 (.int .i64 o.kind) _ rfl).set 0 8 (.int .i64 o.slot) _ rfl).set 0 9 (.string o.A5) _ rfl).set 0 10 (.string o.new) _ rfl);simpa using h);obtain⟨W2,j⟩:=ex ((((v1.setCell ⟨g,7,none⟩ (.int .i64 o.kind)).setCell ⟨g,8,none⟩ (.int .i64 o.slot)).setCell ⟨g,9,none⟩ (.string o.A5)).setCell ⟨g,10,none⟩ (.string o.new));rw[← j]at M;rw[← j];clear j H1 V K L S
 go_upto_region 4 with(go_at_call 148;(with_reducible refine(T.out _ _ M.out).mono ?_);rintro e v2 ⟨rfl,h⟩;(try dsimp only[Ou]);have W:=Hq h;have N:=Aa h.Am;have O:=Aj h.Am;clear h)
 have x:=Hq (show Ri w b s D [(g,(Bt a prev f kind pg next k o.kind o.slot o.A5 o.new 1 root q p es (.slice r n c) (.slice t m d)),47),(g+1,Dl,47)] (v2.setCell ⟨g,11,none⟩ (.int .i64 1))from by have h:=(W.out.set 0 11 (.int .i64 1) _ rfl);simpa using h);obtain⟨W3,j⟩:=ex (v2.setCell ⟨g,11,none⟩ (.int .i64 1));rw[← j]at x;rw[← j];clear j M W N O T;have a6:=Aa x.out.Am
 go_wp2_with(first
  |with_reducible refine lL x.out.Am Ca ?_
  |with_reducible refine lS (Bt a prev f kind pg next k o.kind o.slot o.A5 o.new 1 root q p es (.slice r n c) (.slice t m d)) x.out.As ?_)
 refine rT1 x.out.As Ca ?_;have X:=x.out.row 1 (Bt a prev f kind pg next k o.kind o.slot o.A5 o.new 1 root q p es (.slice r n c) (.slice t m d)) _ rfl;exact⟨rfl,X.rd,X.kept⟩
theorem oW (b:Nat)(s:ByteArray)(st:Rc.St)(B:s.size≤1000000)(ha:st.at_≤s.size)(a prev f kind Ab next q ok os v root z es:Int)(D on y:ByteArray)(ts:List Rc.Cw)(ds:List Rc.Cx)(r t:Option Addr)(n c m d:Nat){pg:Int}{s1 s2 G:Rc.St}{o:Rc.Op}{p:Int}(M:Rc.Bm false s.data.toList st 3=(pg,s1))(N:Rc.Tb false s.data.toList s1=(o,s2))(O:Rc.Bm false s.data.toList s2 1=(p,G)){rt j k:Int}{A:ByteArray}{H I J P:Rc.St}(Q:Rc.Bm false s.data.toList G 3=(rt,H))(R:Rc.Bm false s.data.toList H 3=(j,I))(S:Rc.Bm false s.data.toList I 2=(k,J))(h6:Rc.Ib s.data.toList J=(A,P))(T:¬ p=1)(w:World)(hb:w.heap[b]? =some (.cells (iC s st.at_ st.bad) 173 (0,0))):
 Cq 149 #[.pointer (some ⟨b,0,none⟩),.agg (Bt a prev f kind Ab next q ok os D on v root y z es (.slice r n c) (.slice t m d))] w (kS s ⟨a,prev,f,kind,pg,next,q,⟨o.kind,o.slot,o.A5,o.new⟩,p,rt,⟨A,j,k⟩,ts,ds⟩ P (.slice r n c) (.slice t m d) b w):=by
 have hl:s.data.toList.length=s.size:=by simp
 have a1:=Rc.Bn M (by omega);have a2:=Rc.Xu N a1;have a3:=Rc.Bn O a2;have C0:=Hq (fun l u (x:Ri w b s st l u)=>x.oU M B ha);have C1:=Hq (fun l u (x:Ri w b s s1 l u)=>x.op N B (by omega));have C2:=Hq (fun l u (x:Ri w b s s2 l u)=>x.Wa O B (by omega));have a4:=Rc.Bn Q a3;have a5:=Rc.Bn R a4;have a6:=Rc.Bn S a5;have C3:=Hq (fun l u (x:Ri w b s G l u)=>x.oU Q B (by omega));have C4:=Hq (fun l u (x:Ri w b s H l u)=>x.oU R B (by omega));have C5:=Hq (fun l u (x:Ri w b s I l u)=>x.Abk S B (by omega));have C6:=Hq (fun l u (x:Ri w b s J l u)=>x.text h6 B (by omega));have ak:(p==1)=false:=by simpa using T
 have an:(p != 1)=true:=by simpa using T
 clear M N O Q R S h6 a1 a2 a3 a4 a5 a6;have K:=Hq (((Ri.start hb).alloc (Bt a prev f kind Ab next q ok os D on v root y z es (.slice r n c) (.slice t m d)) 47).alloc Dl 47);clear hb;go_enter Tryz.func149,Tryz.ntmps149;go_upto_region 1 with fail;obtain⟨g,U⟩:=ex w.heap.size;obtain⟨W0,C⟩:=ex ((w.alloc (.cells (Bt a prev f kind Ab next q ok os D on v root y z es (.slice r n c) (.slice t m d)) 47)).alloc (.cells Dl 47));have E:(w.alloc (.cells (Bt a prev f kind Ab next q ok os D on v root y z es (.slice r n c) (.slice t m d)) 47)).heap.size=w.heap.size+1:=by simp
 simp only[List.nil_append,List.singleton_append,E]at K;rw[← U,← C]at K;rw[← U,← C];clear U C E
 go_upto_region 2 with(go_at_call 148;(with_reducible refine(C0.out _ _ K.out).mono ?_);rintro e v0 ⟨rfl,h⟩;(try dsimp only[Ou]);have K0:=Hq h;have V:=Aa h.Am;have W:=Aj h.Am;clear h)
 have H1:=Hq (show Ri w b s s1 [(g,(Bt a prev f kind pg next q ok os D on v root y z es (.slice r n c) (.slice t m d)),47),(g+1,Dl,47)] (v0.setCell ⟨g,4,none⟩ (.int .i64 pg))from by have h:=(K0.out.set 0 4 (.int .i64 pg) _ rfl);simpa using h);obtain⟨W1,i⟩:=ex (v0.setCell ⟨g,4,none⟩ (.int .i64 pg));rw[← i]at H1;rw[← i];clear i K K0 V W C0
 go_upto_region 3 with(go_at_call 150;(with_reducible refine(C1.out _ _ H1.out).mono ?_);rintro e v1 ⟨rfl,h⟩;(try dsimp only[Ou]);have K1:=Hq h;have X:=Aa h.Am;have Y:=Aj h.Am;clear h)
 have Z:=Hq (show Ri w b s s2 [(g,(Bt a prev f kind pg next q o.kind o.slot o.A5 o.new v root y z es (.slice r n c) (.slice t m d)),47),(g+1,Dl,47)] ((((v1.setCell ⟨g,7,none⟩ (.int .i64 o.kind)).setCell ⟨g,8,none⟩ (.int .i64 o.slot)).setCell ⟨g,9,none⟩ (.string o.A5)).setCell ⟨g,10,none⟩ (.string o.new))from by have h:=((((K1.out.set 0 7 (.int .i64 o.kind) _ rfl).set 0 8 (.int .i64 o.slot) _ rfl).set 0 9 (.string o.A5) _ rfl).set 0 10 (.string o.new) _ rfl);simpa using h);obtain⟨W2,i⟩:=ex ((((v1.setCell ⟨g,7,none⟩ (.int .i64 o.kind)).setCell ⟨g,8,none⟩ (.int .i64 o.slot)).setCell ⟨g,9,none⟩ (.string o.A5)).setCell ⟨g,10,none⟩ (.string o.new));rw[← i]at Z;rw[← i];clear i H1 K1 X Y C1
 go_upto_region 4 with(go_at_call 148;(with_reducible refine(C2.out _ _ Z.out).mono ?_);rintro e v2 ⟨rfl,h⟩;(try dsimp only[Ou]);have K2:=Hq h;have a7:=Aa h.Am;have a8:=Aj h.Am;clear h)
 have L:=Hq (show Ri w b s G [(g,(Bt a prev f kind pg next q o.kind o.slot o.A5 o.new p root y z es (.slice r n c) (.slice t m d)),47),(g+1,Dl,47)] (v2.setCell ⟨g,11,none⟩ (.int .i64 p))from by have h:=(K2.out.set 0 11 (.int .i64 p) _ rfl);simpa using h);obtain⟨W3,i⟩:=ex (v2.setCell ⟨g,11,none⟩ (.int .i64 p));rw[← i]at L;rw[← i];clear i Z K2 a7 a8 C2;have ao:=Aa L.out.Am;clear T
 go_upto_region 6 with(go_at_call 148;(with_reducible refine(C3.out _ _ L.out).mono ?_);rintro e v3 ⟨rfl,h⟩;(try dsimp only[Ou]);have K3:=Hq h;have aa:=Aa h.Am;have ad:=Aj h.Am;clear h)
 have H4:=Hq (show Ri w b s H [(g,(Bt a prev f kind pg next q o.kind o.slot o.A5 o.new p rt y z es (.slice r n c) (.slice t m d)),47),(g+1,Dl,47)] (v3.setCell ⟨g,12,none⟩ (.int .i64 rt))from by have h:=(K3.out.set 0 12 (.int .i64 rt) _ rfl);simpa using h);obtain⟨W4,i⟩:=ex (v3.setCell ⟨g,12,none⟩ (.int .i64 rt));rw[← i]at H4;rw[← i];clear i L K3 aa ad C3
 go_upto_region 7 with(go_at_call 148;(with_reducible refine(C4.out _ _ H4.out).mono ?_);rintro e v4 ⟨rfl,h⟩;(try dsimp only[Ou]);have K4:=Hq h;have ae:=Aa h.Am;have af:=Aj h.Am;clear h)
 have H5:=Hq (show Ri w b s I [(g,(Bt a prev f kind pg next q o.kind o.slot o.A5 o.new p rt y j es (.slice r n c) (.slice t m d)),47),(g+1,Dl,47)] (v4.setCell ⟨g,14,none⟩ (.int .i64 j))from by have h:=(K4.out.set 0 14 (.int .i64 j) _ rfl);simpa using h);obtain⟨W5,i⟩:=ex (v4.setCell ⟨g,14,none⟩ (.int .i64 j));rw[← i]at H5;rw[← i];clear i H4 K4 ae af C4
 go_upto_region 8 with(go_at_call 148;(with_reducible refine(C5.out _ _ H5.out).mono ?_);rintro e v5 ⟨rfl,h⟩;(try dsimp only[Ou]);have K5:=Hq h;have ag:=Aa h.Am;have ah:=Aj h.Am;clear h)
 have H6:=Hq (show Ri w b s J [(g,(Bt a prev f kind pg next q o.kind o.slot o.A5 o.new p rt y j k (.slice r n c) (.slice t m d)),47),(g+1,Dl,47)] (v5.setCell ⟨g,15,none⟩ (.int .i64 k))from by have h:=(K5.out.set 0 15 (.int .i64 k) _ rfl);simpa using h);obtain⟨W6,i⟩:=ex (v5.setCell ⟨g,15,none⟩ (.int .i64 k));rw[← i]at H6;rw[← i];clear i H5 K5 ag ah C5
 go_upto_region 9 with(go_at_call 197;(with_reducible refine(C6.out _ _ H6.out).mono ?_);rintro e v6 ⟨rfl,h⟩;(try dsimp only[Ou]);have K6:=Hq h;have ai:=Aa h.Am;have aj:=Aj h.Am;clear h)
 have F:=Hq (show Ri w b s P [(g,(Bt a prev f kind pg next q o.kind o.slot o.A5 o.new p rt A j k (.slice r n c) (.slice t m d)),47),(g+1,Dl,47)] (v6.setCell ⟨g,13,none⟩ (.string A))from by have h:=(K6.out.set 0 13 (.string A) _ rfl);simpa using h);obtain⟨W7,i⟩:=ex (v6.setCell ⟨g,13,none⟩ (.string A));rw[← i]at F;rw[← i];clear i H6 K6 ai aj C6
 go_wp2_with(first
  |with_reducible refine lL F.out.Am Ca ?_
  |with_reducible refine lS (Bt a prev f kind pg next q o.kind o.slot o.A5 o.new p rt A j k (.slice r n c) (.slice t m d)) F.out.As ?_)
 refine rT1 F.out.As Ca ?_;have h8:=F.out.row 1 (Bt a prev f kind pg next q o.kind o.slot o.A5 o.new p rt A j k (.slice r n c) (.slice t m d)) _ rfl;exact⟨rfl,h8.rd,h8.kept⟩
end Go.Proofs.YtdfkambdagoojaaGreatDoor
namespace Rc
theorem oX {l:List UInt8}{st:St}(h:st.at_≤l.length):(Rf false l st).2.at_≤l.length:=by
 rcases f:Bm false l st 6 with⟨a,s1⟩;rcases g:Bm false l s1 6 with⟨b,s2⟩;rcases i:Bm false l s2 6 with⟨c,k⟩;rcases j:Bm false l k 1 with⟨d,s4⟩;have e:(Rf false l st).2=s4:=by unfold Rf;simp only[f,g,i,j]
 rw[e];exact Bn j (Bn i (Bn g (Bn f h)))
theorem dY {l:List UInt8}{st:St}(h:st.at_≤l.length):(Ix false l st).2.at_≤l.length:=by
 rcases c:Bm false l st 3 with⟨a,s1⟩;rcases d:Bm false l s1 6 with⟨b,s2⟩;have e:(Ix false l st).2=s2:=by unfold Ix;simp only[c,d]
 rw[e];exact Bn d (Bn c h)
theorem dZ {α:Type}{one:St→α×St}{l:List UInt8}(d:∀ st,st.at_≤l.length→(one st).2.at_≤l.length):
 ∀ (m:Nat) (st:St),st.at_≤l.length→(Ha one m st).2.at_≤l.length∧(Ha one m st).1.length≤m:=by
 intro m
 induction m with
 |zero=>intro st a;exact⟨a,Nat.le_refl _⟩
 |succ m ih=>
  intro st a
  cases b:st.bad with
  |true=>rw[cC b];exact⟨a,Nat.zero_le _⟩
  |false=>
   have c:=ih (one st).2 (d st a);unfold Ha;rw[if_neg (by rw[b];simp)];exact⟨c.1,by simpa using c.2⟩
end Rc
namespace Go.Proofs.YtdfkambdagoojaaGreatDoor
open Go.RowKit
theorem C7.A5 {B C b:Nat}{w u:World}(h:C7 B b w u)(hC:C≤B):C7 C b w u:=
 ⟨h.os,h.tape,h.output,h.size,fun k c a=>h.block k (Nat.lt_of_lt_of_le c hC) a⟩
section
variable {w u v : World} {b : Nat} {s : ByteArray} {st st' : Rc.St} {l : List (Nat × Array Value × TypeId)}
theorem Ri.xH {n:Int}(h:Ri w b s st l u)(k:Nat)(d:1≤k)(f:k≤6)(g:Rc.Bm false s.data.toList st k=(n,st'))(i:s.size≤1000000)(j:st.at_≤s.size):
 Cq 148 #[.pointer (some ⟨b,0,none⟩),.int .i64 (k:Int)] u fun e v=>e= .returned (.int .i64 n)∧Ri w b s st' l v∧C7 u.heap.size b u v:=by
 refine(dW b s st k d f (by omega) (by omega) u h.rd).mono ?_;rintro e v ⟨rfl,a,c⟩;rw[g]at a ⊢;exact⟨rfl,h.L6 a c,c⟩
theorem Ri.Abl {n:Int}(h:Ri w b s st l u)(a:Rc.Bm false s.data.toList st 1=(n,st'))(c:s.size≤1000000)(d:st.at_≤s.size):
 Cq 148 #[.pointer (some ⟨b,0,none⟩),.int .i64 1] u fun e v=>e= .returned (.int .i64 n)∧Ri w b s st' l v∧C7 u.heap.size b u v:=h.xH 1 (by omega) (by omega) a c d
theorem Ri.yL {n:Int}(h:Ri w b s st l u)(a:Rc.Bm false s.data.toList st 2=(n,st'))(c:s.size≤1000000)(d:st.at_≤s.size):
 Cq 148 #[.pointer (some ⟨b,0,none⟩),.int .i64 2] u fun e v=>e= .returned (.int .i64 n)∧Ri w b s st' l v∧C7 u.heap.size b u v:=h.xH 2 (by omega) (by omega) a c d
theorem Ri.Abm {n:Int}(h:Ri w b s st l u)(a:Rc.Bm false s.data.toList st 3=(n,st'))(c:s.size≤1000000)(d:st.at_≤s.size):
 Cq 148 #[.pointer (some ⟨b,0,none⟩),.int .i64 3] u fun e v=>e= .returned (.int .i64 n)∧Ri w b s st' l v∧C7 u.heap.size b u v:=h.xH 3 (by omega) (by omega) a c d
theorem Ri.eA {n:Int}(h:Ri w b s st l u)(a:Rc.Bm false s.data.toList st 6=(n,st'))(c:s.size≤1000000)(d:st.at_≤s.size):
 Cq 148 #[.pointer (some ⟨b,0,none⟩),.int .i64 6] u fun e v=>e= .returned (.int .i64 n)∧Ri w b s st' l v∧C7 u.heap.size b u v:=h.xH 6 (by omega) (by omega) a c d
theorem Ri.under (h:Ri w b s st l u){M:Nat}(j:w.heap.size≤M)(e:∀ p∈l,p.1<M)(a:Below M u v):Ri w b s st l v:=by
 have c:=h.bw;refine⟨(a.block _ (by omega)).trans h.rd,c,h.kept.trans ⟨a.os,a.tape,a.output,a.size,fun k m _=>a.block k (by omega)⟩,fun i p d=>?_,h.dis⟩;obtain⟨f,g⟩:=h.box i p d;exact⟨(a.block _ (e p (List.mem_of_getElem? d))).trans f,g⟩
theorem Ri.two {p q:Nat×Array Value×TypeId}(h:Ri w b s st (p::q::l) u):Ri w b s st [p,q] u:=by
 have c:∀ (i:Nat) (x:Nat×Array Value×TypeId),[p,q][i]? =some x→(p::q::l)[i]? =some x:=fun i x a=>by
  rcases i with _|_|i
  ·simpa using a
  ·simpa using a
  ·simp at a
 exact⟨h.rd,h.bw,h.kept,fun i x a=>h.box i x (c i x a),fun i j x y a d=>h.dis i j x y (c i x a) (c j y d)⟩
theorem Ri.tP {p q:Nat×Array Value×TypeId}(h:Ri w b s st (q::p::l) u):p.1<u.heap.size∧w.heap.size≤p.1:=by
 obtain⟨a,c⟩:=h.box 1 p rfl;exact⟨C8 a,c⟩
theorem Ri.Cc {g:Nat}{cs:Array Value}{T:TypeId}{p q:Nat×Array Value×TypeId}(h:Ri w b s st (p::q::(g,cs,T)::l) u):u.heap[g]? =some (.cells cs T (0,0)):=(h.box 2 _ rfl).1
end
theorem iT (b:Nat)(s:ByteArray)(st:Rc.St)(X:s.size≤1000000)(ha:st.at_≤s.size)(d prev f:Int)(w:World)(hb:w.heap[b]? =some (.cells (iC s st.at_ st.bad) 173 (0,0))):
 Cq 151 #[.pointer (some ⟨b,0,none⟩),.agg (Bt d prev f 9 0 0 0 0 0 ⟨#[]⟩ ⟨#[]⟩ 0 0 ⟨#[]⟩ 0 0 (.slice none 0 0) (.slice none 0 0))] w (yT (Rc.Mr false s.data.toList (Rc.bare 9 d prev f) st) b w):=by
 have hl:s.data.toList.length=s.size:=by simp
 rcases h4:Rc.Bm false s.data.toList st 6 with⟨B,s5⟩;have a5:=Rc.Bn h4 (by omega);have C4:=Hq (fun l u (p:Ri w b s st l u)=>p.eA h4 X ha);rcases h5:Rc.Bm false s.data.toList s5 2 with⟨n1,s6⟩;have a6:=Rc.Bn h5 a5;have C5:=Hq (fun l u (p:Ri w b s s5 l u)=>p.yL h5 X (by omega));have p5:=Rc.cB h5;obtain⟨m1,rfl⟩:=Int.eq_ofNat_of_zero_le p5.1;have dk:m1≤65535:=by have:=p5.2;omega
 rcases hT:Rc.Ha (Rc.Rf false s.data.toList) m1 s6 with⟨x,sT⟩;have bT:=Rc.dZ (one:=Rc.Rf false s.data.toList) (l:=s.data.toList) (fun st h=>Rc.oX h) m1 s6 a6;have az:Rc.Rest (Rc.Rf false s.data.toList) s.data.toList.length x sT [] m1 s6:=⟨by rw[hT];rfl,by rw[hT],fun _=>a6,by omega⟩;rw[hT]at bT;have cg:sT.at_≤s.data.toList.length:=bT.1;rcases h6:Rc.Bm false s.data.toList sT 2 with⟨n2,s7⟩;have a7:=Rc.Bn h6 cg;have C6:=Hq (fun l u (p:Ri w b s sT l u)=>p.yL h6 X (by omega));have p6:=Rc.cB h6;obtain⟨m2,rfl⟩:=Int.eq_ofNat_of_zero_le p6.1;have dm:m2≤65535:=by have:=p6.2;omega
 rcases hD:Rc.Ha (Rc.Ix false s.data.toList) m2 s7 with⟨DS,sD⟩;have bD:=Rc.dZ (one:=Rc.Ix false s.data.toList) (l:=s.data.toList) (fun st h=>Rc.dY h) m2 s7 a7;have b0:Rc.Rest (Rc.Ix false s.data.toList) s.data.toList.length DS sD [] m2 s7:=⟨by rw[hD];rfl,by rw[hD],fun _=>a7,by omega⟩;rw[hD]at bD;have ch:x.length≤65535:=by have:=bT.2;simp only at this;omega
 have cj:DS.length≤65535:=by have:=bD.2;simp only at this;omega
 have RD:Rc.Mr false s.data.toList (Rc.bare 9 d prev f) st=⟨d,prev,f,9,0,0,B,Rc.K9,0,0,Rc.D6,x,DS⟩:=by
  unfold Rc.Mr;simp only[h4,h5,Int.toNat_natCast,hT,h6,hD]
  rfl
 have ck:=Hq RD;have b1:=Hq az;have b2:=Hq b0;have H0:=Hq (((Ri.start hb).alloc (Bt d prev f 9 0 0 0 0 0 ⟨#[]⟩ ⟨#[]⟩ 0 0 ⟨#[]⟩ 0 0 (.slice none 0 0) (.slice none 0 0)) 47).alloc Dl 47);clear RD hT bT p5 p6 hD bD a5 a7 h6 az b0 hb h4 h5;go_enter Tryz.func151,Tryz.ntmps151;go_upto_region 1 with fail;obtain⟨g,hg⟩:=ex w.heap.size;obtain⟨W0,an⟩:=ex ((w.alloc (.cells (Bt d prev f 9 0 0 0 0 0 ⟨#[]⟩ ⟨#[]⟩ 0 0 ⟨#[]⟩ 0 0 (.slice none 0 0) (.slice none 0 0)) 47)).alloc (.cells Dl 47));have b3:(w.alloc (.cells (Bt d prev f 9 0 0 0 0 0 ⟨#[]⟩ ⟨#[]⟩ 0 0 ⟨#[]⟩ 0 0 (.slice none 0 0) (.slice none 0 0)) 47)).heap.size=w.heap.size+1:=by simp
 simp only[List.nil_append,List.singleton_append,b3]at H0;rw[← hg,← an]at H0;rw[← hg,← an];have dn:w.heap.size≤g:=by omega
 clear hg an b3
 go_upto_region 2 with(go_at_call 148;(with_reducible refine(C4.out _ _ H0.out).mono ?_);rintro e v0 ⟨rfl,h,hk⟩;have K0:=Hq h;have cm:=Aa h.Am;have cn:=Aj h.Am;clear h hk)
 have H1:=Hq (show Ri w b s s5 [(g,(Bt d prev f 9 0 0 B 0 0 ⟨#[]⟩ ⟨#[]⟩ 0 0 ⟨#[]⟩ 0 0 (.slice none 0 0) (.slice none 0 0)),47),(g+1,Dl,47)] (v0.setCell ⟨g,6,none⟩ (.int .i64 B))from by have h:=K0.out.set 0 6 (.int .i64 B) _ rfl;simpa using h);obtain⟨W1,hW⟩:=ex (v0.setCell ⟨g,6,none⟩ (.int .i64 B));rw[← hW]at H1;rw[← hW];clear hW H0 K0 cm cn C4
 go_upto_block 0 with(go_at_call 148;(with_reducible refine(C5.out _ _ H1.out).mono ?_);rintro e w8 ⟨rfl,b4,hk⟩;clear hk)
 have b5:=Hq b4;clear b4 H1 C5
 go_cut [] (fun wc=>∃ v,Ri w b s sT [(g,(Bt d prev f 9 0 0 B 0 0 ⟨#[]⟩ ⟨#[]⟩ 0 0 ⟨#[]⟩ 0 0 (v) (.slice none 0 0)),47),(g+1,Dl,47)] wc∧Ep P8 4 83 (g+2) wc v x)
 case first=>
  go_wp2_with fail
  go_loopw [6] (fun i wr=>∃ (k m:Nat) (j:List Rc.Cw) (st:Rc.St) (v:Value),i= .int .i64 (k:Int)∧k+m=m1∧j.length≤k∧Rc.Rest (Rc.Rf false s.data.toList) s.data.toList.length x sT j m st∧Ri w b s st [(g,(Bt d prev f 9 0 0 B 0 0 ⟨#[]⟩ ⟨#[]⟩ 0 0 ⟨#[]⟩ 0 0 (v) (.slice none 0 0)),47),(g+1,Dl,47)] wr∧Ep P8 4 83 (g+2) wr v j) (fun i _=>m1-(intOf i).toNat)
  case atStart=>exact⟨0,m1,[],s6,.slice none 0 0,rfl,by omega,by simp,b1.out,b5.out,Ml _ _ _ _⟩
  case round=>
   obtain⟨k,m,j,st,v,rfl,cp,hlen,hR,C,hO⟩:=hrel;have D:=Hq hR;have y:=Hq C;have R:=Hq hO;clear hR C hO
   by_cases h0:m=0
   ·subst h0
    obtain⟨e1,e2⟩:=D.out.stop;subst e1 e2;have cq:¬ (k:Int)<(m1:Int):=(by omega);go_wp2_with fail;go_meet
    case rel=>exact⟨v,y.out,R.out⟩
   have cr:(k:Int)<(m1:Int):=(by omega);have E:0<m:=by omega
   cases a:st.bad with
   |true=>
    obtain⟨e1,e2⟩:=D.out.bad a;have q:=Aa y.out.rd;rw[a]at q;have ct:=Hq a;subst e1 e2;clear a h0 E;go_wp2_with fail;go_meet
    case rel=>exact⟨v,y.out,R.out⟩
   |false=>
    have F:=D.out.inn a;have q:=Aa y.out.rd;rw[a]at q;rcases Y:Rc.Bm false s.data.toList st 6 with⟨T,b6⟩;have b7:=Rc.Bn Y F;have b8:=Hq (fun l u (p:Ri w b s st l u)=>p.eA Y X (by omega));rcases Z:Rc.Bm false s.data.toList b6 6 with⟨U,b9⟩;have ba:=Rc.Bn Z b7;have bb:=Hq (fun l u (p:Ri w b s b6 l u)=>p.eA Z X (by omega));rcases a1:Rc.Bm false s.data.toList b9 6 with⟨V,bc⟩;have bd:=Rc.Bn a1 ba;have bf:=Hq (fun l u (p:Ri w b s b9 l u)=>p.eA a1 X (by omega));rcases a8:Rc.Bm false s.data.toList bc 1 with⟨W,ao⟩;have bg:=Rc.Bn a8 bd;have bh:=Hq (fun l u (p:Ri w b s bc l u)=>p.Abl a8 X (by omega));have r:Rc.Rf false s.data.toList st=(⟨T,U,V,W==1⟩,ao):=(by unfold Rc.Rf;simp only[Y,Z,a1,a8]);have HN:=Hq (D.out.next E a r (fun _=>bg) (by omega));clear r a F h0 D Y b7 Z ba a1 bd a8 bg;obtain⟨A,c,rfl⟩:=Gd R.out;have n:b<g+2:=(by have:=y.out.bw;omega);go_upto_region 6 with fail;clear q
    go_upto_region 7 with(first|(go_at_call 148;(with_reducible refine(b8.out _ _ y.out).mono ?_);rintro e w1 ⟨rfl,aa,G⟩;have ad:=Jv R.out n G)|(go_at_call 148;(with_reducible refine(bb.out _ _ aa).mono ?_);rintro e w2 ⟨rfl,H,I⟩;have ae:=Jv ad n I)|(go_at_call 148;(with_reducible refine(bf.out _ _ H).mono ?_);rintro e w3 ⟨rfl,aq,bj⟩;have bk:=Jv ae n bj)|with_reducible refine sN #[T,U,V,false] ?_)
    have af:=Hq (aq.alloc #[T,U,V,false] 83);have KK:=C7.Jf (b:=b) (Nat.le_refl _) (Ag w3 (.cells #[T,U,V,false] 83));have bl:=Hq bk;obtain⟨gx,J⟩:=ex w3.heap.size;obtain⟨W4,L⟩:=ex (w3.alloc (.cells #[T,U,V,false] 83));have cu:W4.heap.size=gx+1:=(by rw[L,J];simp);have dp:g+2≤gx:=(by have:=aq.tP;simp only at this;omega);simp only[List.cons_append,List.nil_append]at af;rw[← J,← L]at af;rw[← L]at KK;have ar:=Hq KK.size;have KK:=Hq KK;rw[← J,← L];have bm:=Hq J;clear J cu L aa H aq G I bj ad ae bk y R b8 bb bf
    go_upto_region 8 with(go_at_call 148;(with_reducible refine(bh.out _ _ af.out).mono ?_);rintro e w5 ⟨rfl,ag,au⟩;have cv:=Aa ag.Cc;have cw:=Aj ag.Cc)
    have N:=Hq (show Ri w b s ao [(g,(Bt d prev f 9 0 0 B 0 0 ⟨#[]⟩ ⟨#[]⟩ 0 0 ⟨#[]⟩ 0 0 ((.slice A j.length c)) (.slice none 0 0)),47),(g+1,Dl,47),(gx,#[T,U,V,.bool (W==1)],83)] (w5.setCell ⟨gx,3,none⟩ (.bool (W==1)))from by have h:=ag.set 2 3 (.bool (W==1)) _ rfl;simpa using h);have bn:Below w3.heap.size w5 (w5.setCell ⟨gx,3,none⟩ (.bool (W==1))):=⟨rfl,rfl,rfl,by simp[World.setCell],fun k hk=>Below.heap_setCell _ _ _ _ (by show k≠gx;have:=bm.out;omega)⟩;have bo:=Hq (Jv bl.out n ((KK.out.trans (au.A5 ar.out)).step (by have:=au.size;have:=ar.out;omega) bn));obtain⟨W6,av⟩:=ex (w5.setCell ⟨gx,3,none⟩ (.bool (W==1)));rw[← av]at N bo;rw[← av];clear av bn KK ar bl cv cw ag au af bm bh;have dq:=Aa N.out.Am;have cx:IntKind.i64.wrap ((k:Int)+1)=(k:Int)+1:=IntWalk.i64_in _ (by omega)
    go_wp2_with(first|with_reducible refine lL N.out.Cc lR ?_|(at_builtin;refine Lf Kr (.tmp 39) (.tmp 41) 34 83 vI rD rfl (by omega) (by omega) rfl (g+2) _ j.length (j.flatMap P8) rfl (Ce bo.out (Ag W6 (.cells #[T,U,V,.bool (W==1)] 83))) W6.heap.size (P8 ⟨T,U,V,W==1⟩) 83 rfl (heap_alloc_new W6 _) rfl (by simp[P8,Value.oneCell']) (by omega) (by have h1:=N.out.tP;simp only at h1;simp;omega) ?_;intro v7 w7 ho bp aw;obtain⟨A7,c7,rfl⟩:=Gd ho;have t:=(N.out.step (Ag W6 (.cells #[T,U,V,.bool (W==1)] 83))).two.under (M:=g+2) (by omega) (by simp) aw;have bq:=Aa t.Am;have cy:=Aj t.Am))
    have O:=Hq (t.set 0 16 (.slice A7 (j.length+1) c7) _ rfl);have P:=Hq (Lq (Ep.push (enc:=P8) ho) ⟨g,16,none⟩ (.slice A7 (j.length+1) c7) (by show g<g+2;omega));go_roundw
    case rel=>exact⟨k+1,m-1,j++[⟨T,U,V,W==1⟩],ao,_,rfl,by omega,by rw[List.length_append,List.length_singleton];omega,HN.out,(by have h:=O.out;first|exact h|simpa using h),(by have h:=P.out;first|exact h|simpa using h)⟩
    case measure=>simp[intOf];omega
 case rest=>
 obtain⟨v,C,hO⟩:=hcut;obtain⟨AT,cT,rfl⟩:=Gd hO;obtain⟨wa,rfl⟩:=ex wc;have ax:=Hq C;have br:=Hq hO;clear C hO b5 b1
 go_upto_block 2 with(go_at_call 148;(with_reducible refine(C6.out _ _ ax.out).mono ?_);rintro e wb ⟨rfl,bs,bt⟩)
 have bu:=Hq bs;have bx:=Hq (Jv br.out (by have:=ax.out.bw;omega) bt);clear bs bt ax br C6
 go_cut [] (fun wc=>∃ v,Ri w b s sD [(g,(Bt d prev f 9 0 0 B 0 0 ⟨#[]⟩ ⟨#[]⟩ 0 0 ⟨#[]⟩ 0 0 (.slice AT x.length cT) (v)),47),(g+1,Dl,47)] wc∧Ep jQ 2 65 (g+2) wc v DS∧Ep P8 4 83 (g+2) wc (.slice AT x.length cT) x)
 case first=>
  go_wp2_with fail
  go_loopw [8] (fun i wr=>∃ (k m:Nat) (j:List Rc.Cx) (st:Rc.St) (v:Value),i= .int .i64 (k:Int)∧k+m=m2∧j.length≤k∧Rc.Rest (Rc.Ix false s.data.toList) s.data.toList.length DS sD j m st∧Ri w b s st [(g,(Bt d prev f 9 0 0 B 0 0 ⟨#[]⟩ ⟨#[]⟩ 0 0 ⟨#[]⟩ 0 0 (.slice AT x.length cT) (v)),47),(g+1,Dl,47)] wr∧Ep jQ 2 65 (g+2) wr v j∧Ep P8 4 83 (g+2) wr (.slice AT x.length cT) x) (fun i _=>m2-(intOf i).toNat)
  case atStart=>exact⟨0,m2,[],s7,.slice none 0 0,rfl,by omega,by simp,b2.out,bu.out,Ml _ _ _ _,bx.out⟩
  case round=>
   obtain⟨k,m,j,st,v,rfl,cp,hlen,hR,C,hO,hE⟩:=hrel;have D:=Hq hR;have y:=Hq C;have R:=Hq hO;have HE:=Hq hE;clear hR C hO hE
   by_cases h0:m=0
   ·subst h0
    obtain⟨e1,e2⟩:=D.out.stop;subst e1 e2;have cq:¬ (k:Int)<(m2:Int):=(by omega);go_wp2_with fail;go_meet
    case rel=>exact⟨v,y.out,R.out,HE.out⟩
   have cr:(k:Int)<(m2:Int):=(by omega);have E:0<m:=by omega
   cases a:st.bad with
   |true=>
    obtain⟨e1,e2⟩:=D.out.bad a;have q:=Aa y.out.rd;rw[a]at q;have ct:=Hq a;subst e1 e2;clear a h0 E;go_wp2_with fail;go_meet
    case rel=>exact⟨v,y.out,R.out,HE.out⟩
   |false=>
    have F:=D.out.inn a;have q:=Aa y.out.rd;rw[a]at q;rcases ah:Rc.Bm false s.data.toList st 3 with⟨da,bz⟩;have c6:=Rc.Bn ah F;have cz:=Hq (fun l u (p:Ri w b s st l u)=>p.Abm ah X (by omega));rcases ai:Rc.Bm false s.data.toList bz 6 with⟨db,c8⟩;have ca:=Rc.Bn ai c6;have dc:=Hq (fun l u (p:Ri w b s bz l u)=>p.eA ai X (by omega));have r:Rc.Ix false s.data.toList st=(⟨da,db⟩,c8):=(by unfold Rc.Ix;simp only[ah,ai]);have HN:=Hq (D.out.next E a r (fun _=>ca) (by omega));clear r a F h0 D ah c6 ai ca;obtain⟨A,c,rfl⟩:=Gd R.out;have n:b<g+2:=by have:=y.out.bw;omega
    go_upto_region 14 with(go_at_call 148;(with_reducible refine(cz.out _ _ y.out).mono ?_);rintro e w1 ⟨rfl,aa,G⟩;have ad:=Jv R.out n G;have dd:=Jv HE.out n G)
    have aj:=Hq (aa.step (Below.refl _ w1).drew);have de:=Ce ad (Below.refl _ w1).drew;have df:=Ce dd (Below.refl _ w1).drew;refine Gh (S:=(fun u=>u.heap[g]? =some (.cells (Bt d prev f 9 0 0 B 0 0 ⟨#[]⟩ ⟨#[]⟩ 0 0 ⟨#[]⟩ 0 0 (.slice AT x.length cT) ((.slice A j.length c))) 47 (0,0)))) 7 Kr ?_ (fun Q=>?_)
    ·first|exact hSn|exact aj.out.Am
    refine Oo 0 [1,7] ?_;refine Oo 1 [7] ?_;refine Oo 2 [5,6,7] ?_;refine Oo 3 [4,7] ?_;refine Bg (rs:=[4]) Kr (by simp) ?_;refine Ap.cons (o:={dst:=some 64,op:=_,type:=_,pos:=_,after:=_,guard:=_}) rfl (fun K z=>?_) ?_
    rotate_left
    ·exact Ap.nil
    go_simp
    (with_reducible refine(dc.out _ _ aj.out).mono ?_);rintro e w2 ⟨rfl,H,I⟩;have hSn:=H.Am;have ae:=Jv de n I;have dh:=Jv df n I;try go_simp
    refine Db z (fun Q=>?_) (by first|exact hSn|exact aj.out.Am);clear z K;refine Oo 5 [6,7] ?_;refine Bg (rs:=[6]) Kr (by simp) ?_;refine Ap.cons (o:={dst:=some 66,op:=_,type:=_,pos:=_,after:=_,guard:=_}) rfl (fun K z=>?_) ?_
    rotate_left
    ·exact Ap.nil
    go_simp
    have ay:=H.step (Ag w2 (.cells #[da,db] 65));have hSn:=ay.Am;have cb:=Ce ae (Ag w2 (.cells #[da,db] 65));have hG:=heap_alloc_new w2 (.cells #[da,db] 65);have di:=Ce dh (Ag w2 (.cells #[da,db] 65));refine Db z (fun Q=>?_) (by first|exact hSn|exact aj.out.Am);clear z K;refine Bg (rs:=[7]) Kr (by simp) ?_;refine Ap.last (o:={dst:=some 67,op:=_,type:=_,pos:=_,after:=_,guard:=_}) rfl Kr (fun K z=>?_) ?_
    rotate_left
    ·exact Ap.nil
    refine Cp (by rfl) ?_;refine Th _ (.tmp 61) (.tmp 66) 45 65 yN U0 rfl (by omega) (by omega) rfl (g+2) _ j.length (j.flatMap jQ) rfl cb w2.heap.size (jQ ⟨da,db⟩) 65 rfl hG rfl (by simp[jQ,Value.oneCell']) (by omega) (by have h1:=ay.tP;simp only at h1;omega) ?_;intro v7 w7 ho bp aw;obtain⟨A7,c7,rfl⟩:=Gd ho;have t:=ay.under (M:=g+2) (by omega) (by simp) aw;have hSn:=t.Am;have bq:=Aa t.Am;have cy:=Aj t.Am;have dj:=pQ di cb (by decide) bp;refine z.out _ _ ?_;clear z K
    try simp only[Act.put,pS]
    refine Bg (rs:=[8]) Kr (by simp) ?_;refine Ap.last (o:={dst:=some 68,op:=_,type:=_,pos:=_,after:=_,guard:=_}) rfl Kr (fun K z=>?_) ?_
    rotate_left
    ·exact Ap.nil
    go_simp
    refine z.out _ _ ?_;clear z K
    try simp only[Act.put,pS]
    refine Bg (rs:=[9]) Kr (by simp) ?_;refine Ap.last (o:={dst:=none,op:=_,type:=_,pos:=_,after:=_,guard:=_}) rfl Kr (fun K z=>?_) ?_
    rotate_left
    ·exact Ap.nil
    go_simp
    refine z.out _ _ ?_;clear z K
    try simp only[Act.put,pS]
    refine Gg Kr ?_ _;have O:=Hq (t.set 0 17 (.slice A7 (j.length+1) c7) _ rfl);have P:=Hq (Lq (Ep.push (enc:=jQ) ho) ⟨g,17,none⟩ (.slice A7 (j.length+1) c7) (by show g<g+2;omega));have cc:=Hq (Lq dj ⟨g,17,none⟩ (.slice A7 (j.length+1) c7) (by show g<g+2;omega));have cx:IntKind.i64.wrap ((k:Int)+1)=(k:Int)+1:=IntWalk.i64_in _ (by omega);go_wp2_with fail;go_roundw
    case rel=>exact⟨k+1,m-1,j++[⟨da,db⟩],c8,_,rfl,by omega,by rw[List.length_append,List.length_singleton];omega,HN.out,(by have h:=O.out;first|exact h|simpa using h),(by have h:=P.out;first|exact h|simpa using h),(by have h:=cc.out;first|exact h|simpa using h)⟩
    case measure=>simp[intOf];omega
 case rest=>
 obtain⟨v,C,hO,hE⟩:=hcut;obtain⟨AD,cD,rfl⟩:=Gd hO;obtain⟨wz,rfl⟩:=ex wc;have ak:=Hq C;have cd:=Hq hO;have cf:=Hq hE;clear C hO hE bu bx b2
 go_wp2_with(first
  |with_reducible refine lL ak.out.Am Ca ?_
  |with_reducible refine lS (Bt d prev f 9 0 0 B 0 0 ⟨#[]⟩ ⟨#[]⟩ 0 0 ⟨#[]⟩ 0 0 (.slice AT x.length cT) (.slice AD DS.length cD)) ak.out.As ?_)
 refine rT1 ak.out.As Ca ?_;have h8:=ak.out.row 1 (Bt d prev f 9 0 0 B 0 0 ⟨#[]⟩ ⟨#[]⟩ 0 0 ⟨#[]⟩ 0 0 (.slice AT x.length cT) (.slice AD DS.length cD)) _ rfl;rw[ck.out];exact⟨AT,cT,AD,cD,rfl,⟨⟨Ex (Oh cf.out _ _ (by omega)),Ex (Oh cd.out _ _ (by omega)),⟨Nat.le_trans ch (by omega),Nat.le_trans cj (by omega)⟩⟩,(Df.own (Oh cf.out _ _ (by omega))).mono (by omega),(Df.own (Oh cd.out _ _ (by omega))).mono (by omega)⟩,h8.kept⟩
end Go.Proofs.YtdfkambdagoojaaGreatDoor
