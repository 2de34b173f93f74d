import Derived.Test.YtmldoihahndcgaaGreatDoorHs00
import Derived.Test.YtmldoihahndcgaaGreatDoorHs07
import Derived.Test.YtmldoihahndcgaaGreatDoorHs01
import Derived.Test.YtmldoihahndcgaaGreatDoorHs05
import Derived.Test.YtmldoihahndcgaaGreatDoorHs02
import Derived.Laws.MakeOwn
set_option maxRecDepth 100000
set_option maxHeartbeats 16000000
set_option linter.unusedSimpArgs false
namespace Go.Proofs.YtmldoihahndcgaaGreatDoor
open Go.RowKit Sc
theorem qI {n j a:Nat}{fs:List Fr}(b:a<fs.length)(h:0<fs[a].pins):Fu n (j+1) a fs=Fu n j ((a+1)%n) fs:=by
 show(if 0<(Dc fs a).pins then _ else _)=_
 rw[Cg b,if_pos h]
theorem nX {n j a:Nat}{fs:List Fr}(b:a<fs.length)(h:¬ 0<fs[a].pins)(c:fs[a].mark=true):Fu n (j+1) a fs=Fu n j ((a+1)%n) (fs.set a {fs[a]with mark:=false}):=by
 show(if 0<(Dc fs a).pins then _ else if(Dc fs a).mark=true then _ else _)=_
 rw[Cg b,if_neg h,if_pos c]
theorem qJ {n j a:Nat}{fs:List Fr}(b:a<fs.length)(h:¬ 0<fs[a].pins)(c:fs[a].mark=false):Fu n (j+1) a fs=some (a,fs):=by
 show(if 0<(Dc fs a).pins then _ else if(Dc fs a).mark=true then _ else _)=_
 rw[Cg b,if_neg h,if_neg (by rw[c];decide)]
def nY (x:Lg.Dk×Int)(w:World)(e:Ending)(w':World):Prop:=∃ (A:Option Addr) (c:Nat),e= .returned (.tuple #[Cv x.1 A c,x.2])∧Ca w' x.1 A c∧Cp 0 w' 9 A∧Bw w w'
def Ie (x:Px)(w:World)(e:Ending)(w':World):Prop:=∃ q:SP,e= .returned (.tuple #[Ag x.s q,x.e])∧Ao w' x.s q x.fs∧Bw w w'
def tJ (x:Px×Nat)(w:World)(e:Ending)(w':World):Prop:=∃ q:SP,e= .returned (.tuple #[Ag x.1.s q,.int .i64 (x.2:Int),x.1.e])∧(x.1.e=0∨x.1.e=20→Ao w' x.1.s q x.1.fs)∧Bw w w'
def rD (d:Lg.Dk)(a:Nat):ByteArray×Int:=if d.down=true then(⟨#[]⟩,20)else(F1 d a,0)
theorem qK {N n B:Nat}{s:Tx.St}{fs:List Fr}(h:Wf N n B s fs):(Bl s fs).1.fs.length≤100∧(Bl s fs).2<(Bl s fs).1.fs.length:=by
 obtain⟨a,b,c⟩:=h.room;have:=h.nf;omega
theorem Cp.lt {n:Nat}{w:World}{T:TypeId}{A:Option Addr}(h:Cp n w T A):∀ ad,A=some ad→ad.block<w.heap.size:=fun ad e=>by
 obtain⟨_,cs,b,a⟩:=h ad e;exact By a
def rZ (x:Px×ByteArray)(w:World)(e:Ending)(w':World):Prop:=∃ q:SP,e= .returned (.tuple #[Ag x.1.s q,x.2,x.1.e])∧Ao w' x.1.s q x.1.fs∧Bw w w'
theorem Sq {w w':World}{A:Option Addr}{c n M:Nat}{vs:List Value}(h:Reads w A c n vs)(g:∀ ad,A=some ad→ad.block<M)(f:Below M w w'):Reads w' A c n vs:=fun i=>by
 obtain⟨b,off,e,k,d,a⟩:=h i;exact⟨b,off,e,k,Nat.lt_of_lt_of_le d f.size,fun j v l=>by rw[f.cell (p:=⟨b,off+j,none⟩) (show b<M from g ⟨b,off,none⟩ e)];exact a j v l⟩
theorem Ao.upto {w w':World}{s:Tx.St}{p:SP}{fs:List Fr}(h:Ao w s p fs){M:Nat}(c:∀ ad,p.A=some ad→ad.block<M)(d:∀ ad,p.F=some ad→ad.block<M)(a:Below M w w'){f:List Rc.A9}{T:Option Addr}{tc:Nat}(g:Wv w' T tc f)(b:Cp 0 w' 134 T):
 Ao w' {s with txns:=f} {p with T:=T,tc:=tc} fs:=
 ⟨⟨⟨Sq h.st.dk.secs c a,h.st.dk.small⟩,fun ad e=>⟨(h.st.dt ad e).1,by rw[a.block _ (c ad e)];exact(h.st.dt ad e).2⟩,g,b⟩,h.fn,Sq h.fr d a,fun ad e=>⟨(h.ft ad e).1,by rw[a.block _ (d ad e)];exact(h.ft ad e).2⟩⟩
theorem Zk (a:Rc.A9)(t:Int)(b:Nat)(w:World)(d:w.cell? ⟨b,2,none⟩=some (.int .i64 t)):Cq 177 #[.agg (kS a),.pointer (some ⟨b,0,none⟩)] w (Lu (a.txn=t) w):=by
 have k:=Hq d;have g:b<w.heap.size:=by
  rcases Nat.lt_or_ge b w.heap.size with h|h
  ·exact h
  ·rw[World.cell?,Array.getElem?_eq_none h]at d
   cases d
 have i:=show(w.alloc (.cells (kS a) 134)).cell? ⟨b,2,none⟩=some (.int .i64 t)from by rw[(Ab w (.cells (kS a) 134)).cell (p:=⟨b,2,none⟩) g];exact d
 have j:=show(w.alloc (.cells (kS a) 134)).cell? ⟨w.heap.size,0,none⟩=some (.int .i64 a.txn)from by rw[Aa (heap_alloc_new w (.cells (kS a) 134))];rfl
 clear d
 by_cases c:a.txn=t
 ·have e:=Hq (fun w' f=>We (p:=a.txn=t) (w:=w) (w':=w') c f)
  generalize Lu (a.txn=t) w=Q at e ⊢;have f:(a.txn==t)=true:=by rw[c];exact beq_self_eq_true _
  clear c;go_enter Tryz.func177,Tryz.ntmps177;go_wp2_with fail;exact e.out _ (Ab _ _)
 ·have e:=Hq (fun w' f=>Wg (p:=a.txn=t) (w:=w) (w':=w') c f)
  generalize Lu (a.txn=t) w=Q at e ⊢;have f:(a.txn==t)=false:=beq_eq_false_iff_ne.2 c;clear c;go_enter Tryz.func177,Tryz.ntmps177;go_wp2_with fail;exact e.out _ (Ab _ _)
theorem jO {s:Tx.St}{fs:List Fr}{r:Rc.Rec}{D:ByteArray→ByteArray×Int}{i:Nat}(b:(r.kind=2∨r.kind=3)∧Nd s r.Ac)(hi:s.txns.findIdx? (fun a=>decide (a.txn=r.txn))=some i):
 Cn s fs r D=if ¬ (Bf s fs r.Ac).1.e=0 then(Bf s fs r.Ac).1 else
 if ¬ (D (Dc (Bf s fs r.Ac).1.fs (Bf s fs r.Ac).2).bytes).2=0 then⟨s,fs,(D (Dc (Bf s fs r.Ac).1.fs (Bf s fs r.Ac).2).bytes).2⟩else
 Tq (Bf s fs r.Ac).1 (Bf s fs r.Ac).2 i s fs r (D (Dc (Bf s fs r.Ac).1.fs (Bf s fs r.Ac).2).bytes).1:=by
 unfold Cn;rw[if_neg (fun c=>c b),hi]
open Go.Sort Go.Shelf
section
variable {α : Type} {enc : α → List Value} {k : Nat} {e : TypeId} {B g c : Nat} {w : World} {l : List α} [Inhabited α]
end
end Go.Proofs.YtmldoihahndcgaaGreatDoor
