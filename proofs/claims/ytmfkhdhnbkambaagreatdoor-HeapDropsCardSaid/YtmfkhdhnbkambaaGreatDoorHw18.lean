import Derived.Test.YtmfkhdhnbkambaaGreatDoorHw00
import Derived.Test.YtmfkhdhnbkambaaGreatDoorHw06
import Derived.Test.YtmfkhdhnbkambaaGreatDoorHw12
import Derived.Test.YtmfkhdhnbkambaaGreatDoorHw07
import Derived.Test.YtmfkhdhnbkambaaGreatDoorHw01
import Derived.BigRegion
set_option maxRecDepth 100000
set_option maxHeartbeats 16000000
set_option linter.unusedSimpArgs false
namespace Go.Proofs.YtmfkhdhnbkambaaGreatDoor
open Go.RowKit
theorem tP (d:Lg.Dk)(A:Option Addr)(c:Nat)(a:Int)(w:World):
 Cr 291 #[D1 d A c,a] w (.bool (decide (Lg.Hm d a))):=by
 obtain⟨L,left,down⟩:=d
 by_cases b:0≤a
 ·by_cases e:a<(L.length:Int)
  ·rw[decide_eq_true (show Lg.Hm ⟨L,left,down⟩ a from And.intro b e)]
   go_enter Tryz.func291,Tryz.ntmps291;go_wp2_with fail;go_ret;exact⟨by simp,Ac _ _⟩
  ·rw[decide_eq_false (show ¬ Lg.Hm ⟨L,left,down⟩ a from fun h=>e h.2)]
   go_enter Tryz.func291,Tryz.ntmps291;go_wp2_with fail;go_ret;exact⟨by simp,Ac _ _⟩
 ·rw[decide_eq_false (show ¬ Lg.Hm ⟨L,left,down⟩ a from fun h=>b h.1)]
  go_enter Tryz.func291,Tryz.ntmps291;go_wp2_with fail;go_ret;exact⟨by simp,Ac _ _⟩
theorem T5 (d:Lg.Dk)(A:Option Addr)(c:Nat)(a:Int)(w:World)(h:Dd w d A c):
 Cr 268 #[D1 d A c,a] w (.tuple #[.string (Lg.Lt d a).1,.int .i64 (Lg.Lt d a).2]):=by
 have j:=Hq (fun W=>tP d A c a W);have q:=Hq h.secs;clear h;unfold Lg.Lt
 cases l:d.down with
 |true=>
  obtain⟨L,left,down⟩:=d;simp only at l;subst l;rw[if_pos rfl];dsimp only[D1];go_enter Tryz.func268,Tryz.ntmps268;go_wp2_with fail;go_ret2;exact⟨rfl,Ac _ _⟩
 |false=>
  rw[if_neg (by simp)]
  by_cases i:Lg.Hm d a
  ·rw[if_pos i]
   rw[decide_eq_true i]at j;obtain⟨L,left,down⟩:=d;simp only at l;subst l;unfold Lg.Hm at i;unfold Lg.Iq;dsimp only[D1]at i j q ⊢;obtain⟨r,v⟩:=i;obtain⟨k,rfl⟩:=Int.eq_ofNat_of_zero_le r;have hk:k<L.length:=(by omega);obtain⟨b,off,rfl,y,n,g⟩:=Bz Zq q.out hk;have m:=g 0 _ rfl;simp only[Nat.mul_one,Nat.add_zero]at m;rw[Int.toNat_natCast,List.getElem?_eq_getElem hk,Option.getD_some];generalize L[k]=x at m ⊢;have t:=Hq m;clear m g r;go_enter Tryz.func268,Tryz.ntmps268
   go_upto_region 5 with(go_at_call 291;(with_reducible refine(j.out _).mono ?_);rintro e s ⟨rfl,f⟩;have u:=Aa (Bv f))
   have z:s.cell? ⟨b,off+k,none⟩=some (.string x):=(Ag (Ac w _) f).cell (p:=⟨b,off+k,none⟩) n|>.trans t.out
   have o:=Hq (Ag (Ac w _) f);clear f;go_wp2_with fail;go_ret2;exact⟨rfl,o.out⟩
  ·rw[if_neg i]
   rw[decide_eq_false i]at j;clear i;obtain⟨L,left,down⟩:=d;simp only at l;subst l;dsimp only[D1]at j ⊢;go_enter Tryz.func268,Tryz.ntmps268
   go_wp2_with(go_at_call 291;(with_reducible refine(j.out _).mono ?_);rintro e s ⟨rfl,f⟩)
   go_ret2;exact⟨rfl,Ag (Ac _ _) f⟩
structure mT (n:Nat) (w:World) (d:Lg.Dk) (A0 A:Option Addr) (c:Nat):Prop where
 dk:Dd w d A c
 dt:De 0 w 9 A
 nw:A=A0∨De n w 9 A
theorem mT.below {n:Nat}{w w':World}{d:Lg.Dk}{b A:Option Addr}{c:Nat}(h:mT n w d b A c)(a:Bw w w'):mT n w' d b A c:=⟨h.dk.below a,h.dt.below a,h.nw.imp id (fun k=>k.below a)⟩
theorem mT.row {n:Nat}{w:World}{d:Lg.Dk}{a A:Option Addr}{c:Nat}(h:mT n w d a A c){b:Nat}{cur:Array Value}{t:TypeId}{fr:Nat×Nat}(e:w.heap[b]? =some (.cells cur t fr))(f:t≠9)(cs:Array Value):mT n (w.setRow b cs) d a A c:=
 ⟨⟨h.dt.Ia h.dk.secs e f cs,h.dk.small⟩,h.dt.row b cs,h.nw.imp id (fun k=>k.row b cs)⟩
theorem mT.set {n:Nat}{w:World}{d:Lg.Dk}{a A:Option Addr}{c:Nat}(h:mT n w d a A c){b:Nat}{cur:Array Value}{t:TypeId}{fr:Nat×Nat}(e:w.heap[b]? =some (.cells cur t fr))(f:t≠9)(j:Nat)(v:Value):mT n (w.setCell ⟨b,j,none⟩ v) d a A c:=by
 rw[setCell_eq_setRow w b j cur t fr v e];exact h.row e f _
theorem mT.put {n:Nat}{w w':World}{d b:Lg.Dk}{f A a:Option Addr}{c c':Nat}(h:mT n w d f A c)(j:n≤w.heap.size)(l:Dd w' b a c')(g:a=A∨De w.heap.size w' 9 a)(i:Bw w w'):mT n w' b f a c':=
 ⟨l,g.elim (fun e=>by rw[e];exact h.dt.below i) (fun k=>k.mono (Nat.zero_le _)),g.elim (fun e=>by rw[e];exact h.nw.imp id (fun k=>k.below i)) (fun k=>.inr (k.mono j))⟩
end Go.Proofs.YtmfkhdhnbkambaaGreatDoor
