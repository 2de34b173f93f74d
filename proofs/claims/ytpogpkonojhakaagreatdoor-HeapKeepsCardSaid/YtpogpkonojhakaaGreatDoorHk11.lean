import Derived.Test.YtpogpkonojhakaaGreatDoorHk00
import Derived.Test.YtpogpkonojhakaaGreatDoorHk01
import Derived.Test.YtpogpkonojhakaaGreatDoorHk02
import Derived.Test.YtpogpkonojhakaaGreatDoorHk08
import Derived.Test.YtpogpkonojhakaaGreatDoorHk47
import Derived.Test.YtpogpkonojhakaaGreatDoorHk48
import Derived.Test.YtpogpkonojhakaaGreatDoorHk51
set_option maxRecDepth 100000
set_option maxHeartbeats 16000000
set_option linter.unusedSimpArgs false
namespace Go.Proofs.YtpogpkonojhakaaGreatDoor
open Go.RowKit Sc
def Nz (x:Px)(w:World)(e:Ending)(w':World):Prop:=∃ q:SP,e= .returned (.tuple #[Ah x.s q,x.e])∧Am w' x.s q x.fs∧Bw w w'
def yE (x:Px×Nat)(w:World)(e:Ending)(w':World):Prop:=∃ q:SP,e= .returned (.tuple #[Ah x.1.s q,.int .i64 (x.2:Int),x.1.e])∧(x.1.e=0∨x.1.e=20→Am w' x.1.s q x.1.fs)∧Bw w w'
def vG (d:Lg.Dk)(a:Nat):ByteArray×Int:=if d.down=true then(⟨#[]⟩,20)else(Gb d a,0)
theorem tP {N n B:Nat}{s:Tx.St}{fs:List Fr}(h:Wf N n B s fs):(Bp s fs).1.fs.length≤100∧(Bp s fs).2<(Bp s fs).1.fs.length:=by
 obtain⟨a,b,c⟩:=h.room;have:=h.nf;omega
theorem De.lt {n:Nat}{w:World}{T:TypeId}{A:Option Addr}(h:De n w T A):∀ ad,A=some ad→ad.block<w.heap.size:=fun ad e=>by
 obtain⟨_,cs,b,a⟩:=h ad e;exact Bt a
def wA (x:Px×ByteArray)(w:World)(e:Ending)(w':World):Prop:=∃ q:SP,e= .returned (.tuple #[Ah x.1.s q,x.2,x.1.e])∧Am w' x.1.s q x.1.fs∧Bw w w'
theorem Ub {w w':World}{A:Option Addr}{c n M:Nat}{vs:List Value}(h:Reads w A c n vs)(g:∀ ad,A=some ad→ad.block<M)(f:Below M w w'):Reads w' A c n vs:=fun i=>by
 obtain⟨b,off,e,k,d,a⟩:=h i;exact⟨b,off,e,k,Nat.lt_of_lt_of_le d f.size,fun j v l=>by rw[f.cell (p:=⟨b,off+j,none⟩) (show b<M from g ⟨b,off,none⟩ e)];exact a j v l⟩
theorem Am.upto {w w':World}{s:Tx.St}{p:SP}{fs:List Fr}(h:Am w s p fs){M:Nat}(c:∀ ad,p.A=some ad→ad.block<M)(d:∀ ad,p.F=some ad→ad.block<M)(a:Below M w w'){f:List Rc.Bc}{T:Option Addr}{tc:Nat}(g:Ym w' T tc f)(b:De 0 w' 107 T):
 Am w' {s with txns:=f} {p with T:=T,tc:=tc} fs:=
 ⟨⟨⟨Ub h.st.dk.secs c a,h.st.dk.small⟩,fun ad e=>⟨(h.st.dt ad e).1,by rw[a.block _ (c ad e)];exact(h.st.dt ad e).2⟩,g,b⟩,h.fn,Ub h.fr d a,fun ad e=>⟨(h.ft ad e).1,by rw[a.block _ (d ad e)];exact(h.ft ad e).2⟩⟩
theorem bF (a:Rc.Bc)(t:Int)(b:Nat)(w:World)(d:w.cell? ⟨b,2,none⟩=some (.int .i64 t)):Cq 126 #[.agg (nK a),.pointer (some ⟨b,0,none⟩)] w (Mp (a.txn=t) w):=by
 have k:=Hq d;have g:b<w.heap.size:=by
  rcases Nat.lt_or_ge b w.heap.size with h|h
  ·exact h
  ·rw[World.cell?,Array.getElem?_eq_none h]at d
   cases d
 have i:=show(w.alloc (.cells (nK a) 107)).cell? ⟨b,2,none⟩=some (.int .i64 t)from by rw[(Ac w (.cells (nK a) 107)).cell (p:=⟨b,2,none⟩) g];exact d
 have j:=show(w.alloc (.cells (nK a) 107)).cell? ⟨w.heap.size,0,none⟩=some (.int .i64 a.txn)from by rw[Aa (heap_alloc_new w (.cells (nK a) 107))];rfl
 clear d
 by_cases c:a.txn=t
 ·have e:=Hq (fun w' f=>Xy (p:=a.txn=t) (w:=w) (w':=w') c f)
  generalize Mp (a.txn=t) w=Q at e ⊢;have f:(a.txn==t)=true:=by rw[c];exact beq_self_eq_true _
  clear c;go_enter Tryz.func126,Tryz.ntmps126;go_wp2_with fail;exact e.out _ (Ac _ _)
 ·have e:=Hq (fun w' f=>Xz (p:=a.txn=t) (w:=w) (w':=w') c f)
  generalize Mp (a.txn=t) w=Q at e ⊢;have f:(a.txn==t)=false:=beq_eq_false_iff_ne.2 c;clear c;go_enter Tryz.func126,Tryz.ntmps126;go_wp2_with fail;exact e.out _ (Ac _ _)
theorem lZ {s:Tx.St}{fs:List Fr}{r:Rc.Rec}{D:ByteArray→ByteArray×Int}{i:Nat}(b:(r.kind=2∨r.kind=3)∧Ok s r.Ae)(hi:s.txns.findIdx? (fun a=>decide (a.txn=r.txn))=some i):
 Cj s fs r D=if ¬ (Bg s fs r.Ae).1.e=0 then(Bg s fs r.Ae).1 else
 if ¬ (D (Dt (Bg s fs r.Ae).1.fs (Bg s fs r.Ae).2).bytes).2=0 then⟨s,fs,(D (Dt (Bg s fs r.Ae).1.fs (Bg s fs r.Ae).2).bytes).2⟩else
 T7 (Bg s fs r.Ae).1 (Bg s fs r.Ae).2 i s fs r (D (Dt (Bg s fs r.Ae).1.fs (Bg s fs r.Ae).2).bytes).1:=by
 unfold Cj;rw[if_neg (fun c=>c b),hi]
end Go.Proofs.YtpogpkonojhakaaGreatDoor
