import Derived.Test.YtmfkhdhnbkambaaGreatDoorHw00
import Derived.Test.YtmfkhdhnbkambaaGreatDoorHw02
set_option maxRecDepth 100000
set_option maxHeartbeats 16000000
set_option linter.unusedSimpArgs false
namespace Go.Proofs.YtmfkhdhnbkambaaGreatDoor
open Go.RowKit
def Hh (r:ByteArray):Bool:=decide (1≤r.size∧r.size≤400)
theorem D8 {r:ByteArray}(h:Hh r=true):1≤r.size∧r.size≤400:=by unfold Hh at h;exact of_decide_eq_true h
def A6 (p:ByteArray)(rs:List ByteArray):Pg.Ct:={Ab p with Ai:=rs}
theorem Cj (p:ByteArray):Pg.Good (Ab p):=Pg.Yy _
theorem Dz (p:ByteArray)(rs:List ByteArray):Pg.Small (A6 p rs):=(Cj p).fine.small
def Iw (p:ByteArray)(i:Int)(r:ByteArray):ByteArray×Int:=
 if Bk p=false then(⟨#[]⟩,1)else if i<0 then(⟨#[]⟩,1)else if(Pg.Ba (Ab p).Ai i).size≠0 then(⟨#[]⟩,1)
 else if Hh r=false then(⟨#[]⟩,1)else if 512<i then(⟨#[]⟩,18)else Pg.Ek (A6 p (Pg.putAt (Ab p).Ai i.toNat r))
def Mg (p:ByteArray)(i:Int):ByteArray×Int:=
 if Bk p=false then(⟨#[]⟩,1)else if(Pg.Ba (Ab p).Ai i).size=0 then(⟨#[]⟩,21)else Pg.Ek (A6 p (Pg.putAt (Ab p).Ai i.toNat ⟨#[]⟩))
def Ie (p:ByteArray)(i:Int)(r:ByteArray):ByteArray×Int:=
 if Bk p=false then(⟨#[]⟩,1)else if Hh r=false then(⟨#[]⟩,1)else if(Pg.Ba (Ab p).Ai i).size=0 then(⟨#[]⟩,21)
 else Pg.Ek (A6 p (Pg.putAt (Ab p).Ai i.toNat r))
theorem Ps {q:ByteArray}(h:q.size=0):q=⟨#[]⟩:=Km h
theorem R8 {q:ByteArray}(h:¬ q.size=0):q.toList.isEmpty=false∧¬ q.toList=[]:=by
 have a:q.toList.isEmpty=false:=by rw[F8];exact decide_eq_false h
 exact⟨a,fun e=>by rw[e]at a;cases a⟩
theorem nT (p:ByteArray)(i:Int)(r:ByteArray)(R:p.size≤140737488355328)(w:World):
 Cr 168 #[p,i,r] w (Kn (Iw p i r)):=by
 have g:=Hq (fun W=>Ef p R W);have h:=Hq (fun A c W l=>Wn (Ab p) A c i W l);have j:=Hq (fun W=>fJ r W);change Hid (∀ W,Calls _ _ _ _ fun e w'=>e= .returned (.bool (Hh r))∧_)at j;have a:=Cj p;unfold Iw
 cases t:Bk p with
 |false=>
  rw[if_pos rfl];rw[t]at g;generalize Ab p=x at g;clear a t h j;go_enter Tryz.func168,Tryz.ntmps168
  go_wp2_with(first|(go_at_call 109;refine(g.out _).mono ?_;rintro e m ⟨A,c,rfl,f,d⟩))
  go_ret2;exact⟨rfl,At d⟩
 |true=>
  rw[t]at g;rw[if_neg (by simp)];clear t
  by_cases v:i<0
  ·rw[if_pos v]
   generalize Ab p=x at g;clear a h j;go_enter Tryz.func168,Tryz.ntmps168
   go_wp2_with(first|(go_at_call 109;refine(g.out _).mono ?_;rintro e m ⟨A,c,rfl,f,d⟩))
   go_ret2;exact⟨rfl,At d⟩
  ·rw[if_neg v]
   obtain⟨k,rfl⟩:=Int.eq_ofNat_of_zero_le (show 0≤i by omega);have S:(0:Int)≤(k:Int):=(by omega);clear v;rw[show((k:Int)).toNat=k from rfl]
   by_cases n:(Pg.Ba (Ab p).Ai (k:Int)).size≠0
   ·rw[if_pos n]
    obtain⟨z,B⟩:=R8 n;clear n;generalize Pg.Ba (Ab p).Ai (k:Int)=q at h z B;generalize Ab p=x at g h;clear a j;go_enter Tryz.func168,Tryz.ntmps168
    go_wp2_with(first|(go_at_call 109;refine(g.out _).mono ?_;rintro e m ⟨A,c,rfl,f,d⟩)|(go_at_call 117;refine(h.out _ _ _ (f.cells.below ((Below.refl _ _).alloc (Nat.le_refl _) _))).mono ?_;rintro e C ⟨rfl,b⟩;obtain⟨c0,D,c2,c3,f0,f1,f2,f3⟩:=Ey (C0 b)))
    go_ret2;exact⟨rfl,andThen d (Bd b)⟩
   ·rw[if_neg n]
    rw[Ps (q:=Pg.Ba (Ab p).Ai (k:Int)) (by omega)]at h;clear n
    cases s:Hh r with
    |false=>
     rw[if_pos rfl];rw[s]at j;generalize Ab p=x at g h;clear a s;go_enter Tryz.func168,Tryz.ntmps168
     go_wp2_with(first|(go_at_call 109;refine(g.out _).mono ?_;rintro e m ⟨A,c,rfl,f,d⟩)|(go_at_call 117;refine(h.out _ _ _ (f.cells.below ((Below.refl _ _).alloc (Nat.le_refl _) _))).mono ?_;rintro e C ⟨rfl,b⟩;obtain⟨c0,D,c2,c3,f0,f1,f2,f3⟩:=Ey (C0 b))|(go_at_call 116;refine(j.out _).mono ?_;rintro e P ⟨rfl,rfl⟩))
     go_ret2;exact⟨rfl,andThen d (Bd b)⟩
    |true=>
     rw[if_neg (by simp)];rw[s]at j;obtain⟨E,F⟩:=D8 s;clear s
     by_cases Q:(512:Int)<(k:Int)
     ·rw[if_pos Q]
      generalize Ab p=x at g h;clear a;go_enter Tryz.func168,Tryz.ntmps168
      go_wp2_with(first|(go_at_call 109;refine(g.out _).mono ?_;rintro e m ⟨A,c,rfl,f,d⟩)|(go_at_call 117;refine(h.out _ _ _ (f.cells.below ((Below.refl _ _).alloc (Nat.le_refl _) _))).mono ?_;rintro e C ⟨rfl,b⟩;obtain⟨c0,D,c2,c3,f0,f1,f2,f3⟩:=Ey (C0 b))|(go_at_call 116;refine(j.out _).mono ?_;rintro e P ⟨rfl,rfl⟩))
      go_ret2;exact⟨rfl,andThen d (Bd b)⟩
     ·rw[if_neg Q]
      have G:=a.fine.len;have H:=a.fine.sum;have I:=Pg.Jh (Ab p).Ai k r;have u:=Hq (fun A c W l=>Rz (Ab p) A c k r (by omega) (by omega) W l);have J:=Hq (fun A c W l=>R4 (A6 p (Pg.putAt (Ab p).Ai k r)) A c (Dz p _) (by show Pg.Ay (Pg.putAt _ _ _)≤_;omega) W l);change Hid (∀ A c W,Cells W A c (Ab p).Ai→Calls _ _ _ _ fun e w'=>∃ K L,e= .returned (Fv (A6 p (Pg.putAt (Ab p).Ai k r)) K L)∧Bp _ w' K L (A6 p (Pg.putAt (Ab p).Ai k r)).Ai∧_)at u;clear I G H E F a;generalize A6 p (Pg.putAt (Ab p).Ai k r)=y at u J ⊢;generalize Pg.Ek y=o at J ⊢;generalize Ab p=x at g h u;go_enter Tryz.func168,Tryz.ntmps168
      go_wp2_with(first|(go_at_call 109;refine(g.out _).mono ?_;rintro e m ⟨A,c,rfl,f,d⟩)|(go_at_call 117;refine(h.out _ _ _ (f.cells.below ((Below.refl _ _).alloc (Nat.le_refl _) _))).mono ?_;rintro e C ⟨rfl,b⟩;obtain⟨c0,D,c2,c3,f0,f1,f2,f3⟩:=Ey (C0 b))|(go_at_call 116;refine(j.out _).mono ?_;rintro e P ⟨rfl,rfl⟩)|(go_at_call 119;refine(u.out _ _ _ (f.cells.below (Bd b))).mono ?_;rintro e T ⟨K,L,rfl,M,N⟩)|(go_at_call 118;refine(J.out _ _ _ M.cells).mono ?_;rintro e U ⟨rfl,O⟩))
      go_ret2;exact⟨rfl,andThen (andThen (andThen d (Bd b)) N) O⟩
theorem nU (p:ByteArray)(i:Int)(J:p.size≤140737488355328)(w:World):
 Cr 169 #[p,i] w (Kn (Mg p i)):=by
 have g:=Hq (fun W=>Ef p J W);have h:=Hq (fun A c W l=>Wn (Ab p) A c i W l);have a:=Cj p;unfold Mg
 cases m:Bk p with
 |false=>
  rw[if_pos rfl];rw[m]at g;generalize Ab p=x at g;clear a m h;go_enter Tryz.func169,Tryz.ntmps169
  go_wp2_with(first|(go_at_call 109;refine(g.out _).mono ?_;rintro e I ⟨A,c,rfl,d,f⟩))
  go_ret2;exact⟨rfl,At f⟩
 |true=>
  rw[m]at g;rw[if_neg (by simp)];clear m
  by_cases j:(Pg.Ba (Ab p).Ai i).size=0
  ·rw[if_pos j]
   rw[Ps j]at h;generalize Ab p=x at g h;clear a j;go_enter Tryz.func169,Tryz.ntmps169
   go_wp2_with(first|(go_at_call 109;refine(g.out _).mono ?_;rintro e I ⟨A,c,rfl,d,f⟩)|(go_at_call 117;refine(h.out _ _ _ (d.cells.below ((Below.refl _ _).alloc (Nat.le_refl _) _))).mono ?_;rintro e K ⟨rfl,b⟩;obtain⟨c0,L,c2,c3,f0,f1,f2,f3⟩:=Ey (C0 b)))
   go_ret2;exact⟨rfl,andThen f (Bd b)⟩
  ·rw[if_neg j]
   obtain⟨r,s⟩:=Pg.I4 j;obtain⟨t,u⟩:=R8 j;clear j;obtain⟨k,rfl⟩:=Int.eq_ofNat_of_zero_le r;rw[show((k:Int)).toNat=k from rfl];have v:=a.fine.len;have z:=a.fine.sum;have B:=Pg.Jh (Ab p).Ai k ⟨#[]⟩;have M:(⟨#[]⟩:ByteArray).size=0:=rfl;have n:=Hq (fun A c W l=>Rz (Ab p) A c k ⟨#[]⟩ (by omega) (by omega) W l);have C:=Hq (fun A c W l=>R4 (A6 p (Pg.putAt (Ab p).Ai k ⟨#[]⟩)) A c (Dz p _) (by show Pg.Ay (Pg.putAt _ _ _)≤_;omega) W l);change Hid (∀ A c W,Cells W A c (Ab p).Ai→Calls _ _ _ _ fun e w'=>∃ D E,e= .returned (Fv (A6 p (Pg.putAt (Ab p).Ai k ⟨#[]⟩)) D E)∧Bp _ w' D E (A6 p (Pg.putAt (Ab p).Ai k ⟨#[]⟩)).Ai∧_)at n;clear B v z a M s;generalize A6 p (Pg.putAt (Ab p).Ai k ⟨#[]⟩)=y at n C ⊢;generalize Pg.Ek y=o at C ⊢;generalize Pg.Ba (Ab p).Ai (k:Int)=q at h t u;generalize Ab p=x at g h n;go_enter Tryz.func169,Tryz.ntmps169
   go_wp2_with(first|(go_at_call 109;refine(g.out _).mono ?_;rintro e I ⟨A,c,rfl,d,f⟩)|(go_at_call 117;refine(h.out _ _ _ (d.cells.below ((Below.refl _ _).alloc (Nat.le_refl _) _))).mono ?_;rintro e K ⟨rfl,b⟩;obtain⟨c0,L,c2,c3,f0,f1,f2,f3⟩:=Ey (C0 b))|(go_at_call 119;refine(n.out _ _ _ (d.cells.below (Bd b))).mono ?_;rintro e N ⟨D,E,rfl,F,G⟩)|(go_at_call 118;refine(C.out _ _ _ F.cells).mono ?_;rintro e O ⟨rfl,H⟩))
   go_ret2;exact⟨rfl,andThen (andThen (andThen f (Bd b)) G) H⟩
theorem nV (p:ByteArray)(i:Int)(r:ByteArray)(P:p.size≤140737488355328)(w:World):
 Cr 59 #[p,i,r] w (Kn (Ie p i r)):=by
 have g:=Hq (fun W=>Ef p P W);have h:=Hq (fun A c W m=>Wn (Ab p) A c i W m);have j:=Hq (fun W=>fJ r W);change Hid (∀ W,Calls _ _ _ _ fun e w'=>e= .returned (.bool (Hh r))∧_)at j;have a:=Cj p;unfold Ie
 cases s:Bk p with
 |false=>
  rw[if_pos rfl];rw[s]at g;generalize Ab p=x at g;clear a s h j;go_enter Tryz.func59,Tryz.ntmps59
  go_wp2_with(first|(go_at_call 109;refine(g.out _).mono ?_;rintro e u ⟨A,c,rfl,d,b⟩))
  go_ret2;exact⟨rfl,At b⟩
 |true=>
  rw[s]at g;rw[if_neg (by simp)];clear s
  cases n:Hh r with
  |false=>
   rw[if_pos rfl];rw[n]at j;generalize Ab p=x at g;clear a n h;go_enter Tryz.func59,Tryz.ntmps59
   go_wp2_with(first|(go_at_call 109;refine(g.out _).mono ?_;rintro e u ⟨A,c,rfl,d,b⟩)|(go_at_call 116;refine(j.out _).mono ?_;rintro e O ⟨rfl,rfl⟩))
   go_ret2;exact⟨rfl,At b⟩
  |true=>
   rw[if_neg (by simp)];rw[n]at j;obtain⟨v,z⟩:=D8 n;clear n
   by_cases l:(Pg.Ba (Ab p).Ai i).size=0
   ·rw[if_pos l]
    rw[Ps l]at h;generalize Ab p=x at g h;clear a l;go_enter Tryz.func59,Tryz.ntmps59
    go_wp2_with(first|(go_at_call 109;refine(g.out _).mono ?_;rintro e u ⟨A,c,rfl,d,b⟩)|(go_at_call 116;refine(j.out _).mono ?_;rintro e O ⟨rfl,rfl⟩)|(go_at_call 117;refine(h.out _ _ _ (d.cells.below ((Below.refl _ _).alloc (Nat.le_refl _) _))).mono ?_;rintro e Q ⟨rfl,f⟩;obtain⟨c0,R,c2,c3,f0,f1,f2,f3⟩:=Ey (C0 f)))
    go_ret2;exact⟨rfl,andThen b (Bd f)⟩
   ·rw[if_neg l]
    obtain⟨B,C⟩:=Pg.I4 l;obtain⟨D,E⟩:=R8 l;clear l;obtain⟨k,rfl⟩:=Int.eq_ofNat_of_zero_le B;rw[show((k:Int)).toNat=k from rfl];have F:=a.fine.len;have G:=a.fine.sum;have H:=Pg.Jh (Ab p).Ai k r;have t:=Hq (fun A c W m=>Rz (Ab p) A c k r (by omega) (by omega) W m);have I:=Hq (fun A c W m=>R4 (A6 p (Pg.putAt (Ab p).Ai k r)) A c (Dz p _) (by show Pg.Ay (Pg.putAt _ _ _)≤_;omega) W m);change Hid (∀ A c W,Cells W A c (Ab p).Ai→Calls _ _ _ _ fun e w'=>∃ J K,e= .returned (Fv (A6 p (Pg.putAt (Ab p).Ai k r)) J K)∧Bp _ w' J K (A6 p (Pg.putAt (Ab p).Ai k r)).Ai∧_)at t;clear H F G v z a C;generalize A6 p (Pg.putAt (Ab p).Ai k r)=y at t I ⊢;generalize Pg.Ek y=o at I ⊢;generalize Pg.Ba (Ab p).Ai (k:Int)=q at h D E;generalize Ab p=x at g h t;go_enter Tryz.func59,Tryz.ntmps59
    go_wp2_with(first|(go_at_call 109;refine(g.out _).mono ?_;rintro e u ⟨A,c,rfl,d,b⟩)|(go_at_call 116;refine(j.out _).mono ?_;rintro e O ⟨rfl,rfl⟩)|(go_at_call 117;refine(h.out _ _ _ (d.cells.below ((Below.refl _ _).alloc (Nat.le_refl _) _))).mono ?_;rintro e Q ⟨rfl,f⟩;obtain⟨c0,R,c2,c3,f0,f1,f2,f3⟩:=Ey (C0 f))|(go_at_call 119;refine(t.out _ _ _ (d.cells.below (Bd f))).mono ?_;rintro e S ⟨J,K,rfl,L,M⟩)|(go_at_call 118;refine(I.out _ _ _ L.cells).mono ?_;rintro e T ⟨rfl,N⟩))
    go_ret2;exact⟨rfl,andThen (andThen (andThen b (Bd f)) M) N⟩
end Go.Proofs.YtmfkhdhnbkambaaGreatDoor
