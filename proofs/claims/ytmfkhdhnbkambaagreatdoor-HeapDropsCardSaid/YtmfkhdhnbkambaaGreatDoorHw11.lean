import Derived.Test.YtmfkhdhnbkambaaGreatDoorHw00
import Derived.Test.YtmfkhdhnbkambaaGreatDoorHw08
import Derived.Test.YtmfkhdhnbkambaaGreatDoorHw01
import Derived.Test.YtmfkhdhnbkambaaGreatDoorHw06
import Derived.Test.YtmfkhdhnbkambaaGreatDoorHw02
set_option maxRecDepth 100000
set_option maxHeartbeats 16000000
set_option linter.unusedSimpArgs false
namespace Go.Proofs.YtmfkhdhnbkambaaGreatDoor
open Go.RowKit Sc
def Nz (x:Px)(w:World)(e:Ending)(w':World):Prop:=∃ q:SP,e= .returned (.tuple #[Ah x.s q,x.e])∧Am w' x.s q x.fs∧Bw w w'
def xK (x:Px×Nat)(w:World)(e:Ending)(w':World):Prop:=∃ q:SP,e= .returned (.tuple #[Ah x.1.s q,.int .i64 (x.2:Int),x.1.e])∧(x.1.e=0∨x.1.e=20→Am w' x.1.s q x.1.fs)∧Bw w w'
def uQ (d:Lg.Dk)(a:Nat):ByteArray×Int:=if d.down=true then(⟨#[]⟩,20)else(Ga d a,0)
theorem tG {N n B:Nat}{s:Tx.St}{fs:List Fr}(h:Wf N n B s fs):(Bq s fs).1.fs.length≤100∧(Bq s fs).2<(Bq s fs).1.fs.length:=by
 obtain⟨a,b,c⟩:=h.room;have:=h.nf;omega
theorem De.lt {n:Nat}{w:World}{T:TypeId}{A:Option Addr}(h:De n w T A):∀ ad,A=some ad→ad.block<w.heap.size:=fun ad e=>by
 obtain⟨_,cs,b,a⟩:=h ad e;exact Bt a
def vL (x:Px×ByteArray)(w:World)(e:Ending)(w':World):Prop:=∃ q:SP,e= .returned (.tuple #[Ah x.1.s q,x.2,x.1.e])∧Am w' x.1.s q x.1.fs∧Bw w w'
theorem Tr {w w':World}{A:Option Addr}{c n M:Nat}{vs:List Value}(h:Reads w A c n vs)(g:∀ ad,A=some ad→ad.block<M)(f:Below M w w'):Reads w' A c n vs:=fun i=>by
 obtain⟨b,off,e,k,d,a⟩:=h i;exact⟨b,off,e,k,Nat.lt_of_lt_of_le d f.size,fun j v l=>by rw[f.cell (p:=⟨b,off+j,none⟩) (show b<M from g ⟨b,off,none⟩ e)];exact a j v l⟩
theorem Am.upto {w w':World}{s:Tx.St}{p:SP}{fs:List Fr}(h:Am w s p fs){M:Nat}(c:∀ ad,p.A=some ad→ad.block<M)(d:∀ ad,p.F=some ad→ad.block<M)(a:Below M w w'){f:List Rc.Be}{T:Option Addr}{tc:Nat}(g:Xx w' T tc f)(b:De 0 w' 59 T):
 Am w' {s with txns:=f} {p with T:=T,tc:=tc} fs:=
 ⟨⟨⟨Tr h.st.dk.secs c a,h.st.dk.small⟩,fun ad e=>⟨(h.st.dt ad e).1,by rw[a.block _ (c ad e)];exact(h.st.dt ad e).2⟩,g,b⟩,h.fn,Tr h.fr d a,fun ad e=>⟨(h.ft ad e).1,by rw[a.block _ (d ad e)];exact(h.ft ad e).2⟩⟩
theorem aJ (a:Rc.Be)(t:Int)(b:Nat)(w:World)(d:w.cell? ⟨b,2,none⟩=some (.int .i64 t)):Cq 77 #[.agg (mS a),.pointer (some ⟨b,0,none⟩)] w (Mr (a.txn=t) w):=by
 have k:=Hq d;have g:b<w.heap.size:=by
  rcases Nat.lt_or_ge b w.heap.size with h|h
  ·exact h
  ·rw[World.cell?,Array.getElem?_eq_none h]at d
   cases d
 have i:=show(w.alloc (.cells (mS a) 59)).cell? ⟨b,2,none⟩=some (.int .i64 t)from by rw[(Ac w (.cells (mS a) 59)).cell (p:=⟨b,2,none⟩) g];exact d
 have j:=show(w.alloc (.cells (mS a) 59)).cell? ⟨w.heap.size,0,none⟩=some (.int .i64 a.txn)from by rw[Aa (heap_alloc_new w (.cells (mS a) 59))];rfl
 clear d
 by_cases c:a.txn=t
 ·have e:=Hq (fun w' f=>Xh (p:=a.txn=t) (w:=w) (w':=w') c f)
  generalize Mr (a.txn=t) w=Q at e ⊢;have f:(a.txn==t)=true:=by rw[c];exact beq_self_eq_true _
  clear c;go_enter Tryz.func77,Tryz.ntmps77;go_wp2_with fail;exact e.out _ (Ac _ _)
 ·have e:=Hq (fun w' f=>Xi (p:=a.txn=t) (w:=w) (w':=w') c f)
  generalize Mr (a.txn=t) w=Q at e ⊢;have f:(a.txn==t)=false:=beq_eq_false_iff_ne.2 c;clear c;go_enter Tryz.func77,Tryz.ntmps77;go_wp2_with fail;exact e.out _ (Ac _ _)
theorem lB {s:Tx.St}{fs:List Fr}{r:Rc.Rec}{D:ByteArray→ByteArray×Int}{i:Nat}(b:(r.kind=2∨r.kind=3)∧Oj s r.Ad)(hi:s.txns.findIdx? (fun a=>decide (a.txn=r.txn))=some i):
 Cg s fs r D=if ¬ (Bj s fs r.Ad).1.e=0 then(Bj s fs r.Ad).1 else
 if ¬ (D (Dx (Bj s fs r.Ad).1.fs (Bj s fs r.Ad).2).bytes).2=0 then⟨s,fs,(D (Dx (Bj s fs r.Ad).1.fs (Bj s fs r.Ad).2).bytes).2⟩else
 Tn (Bj s fs r.Ad).1 (Bj s fs r.Ad).2 i s fs r (D (Dx (Bj s fs r.Ad).1.fs (Bj s fs r.Ad).2).bytes).1:=by
 unfold Cg;rw[if_neg (fun c=>c b),hi]
end Go.Proofs.YtmfkhdhnbkambaaGreatDoor
