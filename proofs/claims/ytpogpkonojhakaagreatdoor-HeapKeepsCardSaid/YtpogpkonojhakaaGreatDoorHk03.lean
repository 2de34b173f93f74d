import Derived.Test.YtpogpkonojhakaaGreatDoorHk00
import Derived.Test.YtpogpkonojhakaaGreatDoorHk02
set_option maxRecDepth 100000
set_option maxHeartbeats 16000000
set_option linter.unusedSimpArgs false
namespace Go.Proofs.YtpogpkonojhakaaGreatDoor
open Go.RowKit
def He (r:ByteArray):Bool:=decide (1≤r.size∧r.size≤400)
theorem D5 {r:ByteArray}(h:He r=true):1≤r.size∧r.size≤400:=by unfold He at h;exact of_decide_eq_true h
def A4 (p:ByteArray)(rs:List ByteArray):Pg.Cw:={Ab p with Ai:=rs}
theorem Cf (p:ByteArray):Pg.Good (Ab p):=Pg.Zi _
theorem Dv (p:ByteArray)(rs:List ByteArray):Pg.Small (A4 p rs):=(Cf p).fine.small
def Iy (p:ByteArray)(i:Int)(r:ByteArray):ByteArray×Int:=
 if Bi p=false then(⟨#[]⟩,1)else if i<0 then(⟨#[]⟩,1)else if(Pg.Az (Ab p).Ai i).size≠0 then(⟨#[]⟩,1)
 else if He r=false then(⟨#[]⟩,1)else if 512<i then(⟨#[]⟩,18)else Pg.El (A4 p (Pg.putAt (Ab p).Ai i.toNat r))
def Lv (p:ByteArray)(i:Int):ByteArray×Int:=
 if Bi p=false then(⟨#[]⟩,1)else if(Pg.Az (Ab p).Ai i).size=0 then(⟨#[]⟩,21)else Pg.El (A4 p (Pg.putAt (Ab p).Ai i.toNat ⟨#[]⟩))
def Gn (p:ByteArray)(i:Int)(r:ByteArray):ByteArray×Int:=
 if Bi p=false then(⟨#[]⟩,1)else if He r=false then(⟨#[]⟩,1)else if(Pg.Az (Ab p).Ai i).size=0 then(⟨#[]⟩,21)
 else Pg.El (A4 p (Pg.putAt (Ab p).Ai i.toNat r))
theorem P2 {q:ByteArray}(h:q.size=0):q=⟨#[]⟩:=Kn h
theorem Sp {q:ByteArray}(h:¬ q.size=0):q.toList.isEmpty=false∧¬ q.toList=[]:=by
 have a:q.toList.isEmpty=false:=by rw[F9];exact decide_eq_false h
 exact⟨a,fun e=>by rw[e]at a;cases a⟩
theorem oL (p:ByteArray)(i:Int)(r:ByteArray)(R:p.size≤140737488355328)(w:World):
 Cr 213 #[p,i,r] w (Ko (Iy p i r)):=by
 have g:=Hq (fun W=>Eg p R W);have h:=Hq (fun A c W l=>Xa (Ab p) A c i W l);have j:=Hq (fun W=>gC r W);change Hid (∀ W,Calls _ _ _ _ fun e w'=>e= .returned (.bool (He r))∧_)at j;have a:=Cf p;unfold Iy
 cases t:Bi p with
 |false=>
  rw[if_pos rfl];rw[t]at g;generalize Ab p=x at g;clear a t h j;go_enter Tryz.func213,Tryz.ntmps213
  go_wp2_with(first|(go_at_call 76;refine(g.out _).mono ?_;rintro e m ⟨A,c,rfl,f,d⟩))
  go_ret2;exact⟨rfl,At d⟩
 |true=>
  rw[t]at g;rw[if_neg (by simp)];clear t
  by_cases v:i<0
  ·rw[if_pos v]
   generalize Ab p=x at g;clear a h j;go_enter Tryz.func213,Tryz.ntmps213
   go_wp2_with(first|(go_at_call 76;refine(g.out _).mono ?_;rintro e m ⟨A,c,rfl,f,d⟩))
   go_ret2;exact⟨rfl,At d⟩
  ·rw[if_neg v]
   obtain⟨k,rfl⟩:=Int.eq_ofNat_of_zero_le (show 0≤i by omega);have S:(0:Int)≤(k:Int):=(by omega);clear v;rw[show((k:Int)).toNat=k from rfl]
   by_cases n:(Pg.Az (Ab p).Ai (k:Int)).size≠0
   ·rw[if_pos n]
    obtain⟨z,B⟩:=Sp n;clear n;generalize Pg.Az (Ab p).Ai (k:Int)=q at h z B;generalize Ab p=x at g h;clear a j;go_enter Tryz.func213,Tryz.ntmps213
    go_wp2_with(first|(go_at_call 76;refine(g.out _).mono ?_;rintro e m ⟨A,c,rfl,f,d⟩)|(go_at_call 86;refine(h.out _ _ _ (f.cells.below ((Below.refl _ _).alloc (Nat.le_refl _) _))).mono ?_;rintro e C ⟨rfl,b⟩;obtain⟨c0,D,c2,c3,f0,f1,f2,f3⟩:=Ey (C6 b)))
    go_ret2;exact⟨rfl,andThen d (Bb b)⟩
   ·rw[if_neg n]
    rw[P2 (q:=Pg.Az (Ab p).Ai (k:Int)) (by omega)]at h;clear n
    cases s:He r with
    |false=>
     rw[if_pos rfl];rw[s]at j;generalize Ab p=x at g h;clear a s;go_enter Tryz.func213,Tryz.ntmps213
     go_wp2_with(first|(go_at_call 76;refine(g.out _).mono ?_;rintro e m ⟨A,c,rfl,f,d⟩)|(go_at_call 86;refine(h.out _ _ _ (f.cells.below ((Below.refl _ _).alloc (Nat.le_refl _) _))).mono ?_;rintro e C ⟨rfl,b⟩;obtain⟨c0,D,c2,c3,f0,f1,f2,f3⟩:=Ey (C6 b))|(go_at_call 85;refine(j.out _).mono ?_;rintro e P ⟨rfl,rfl⟩))
     go_ret2;exact⟨rfl,andThen d (Bb b)⟩
    |true=>
     rw[if_neg (by simp)];rw[s]at j;obtain⟨E,F⟩:=D5 s;clear s
     by_cases Q:(512:Int)<(k:Int)
     ·rw[if_pos Q]
      generalize Ab p=x at g h;clear a;go_enter Tryz.func213,Tryz.ntmps213
      go_wp2_with(first|(go_at_call 76;refine(g.out _).mono ?_;rintro e m ⟨A,c,rfl,f,d⟩)|(go_at_call 86;refine(h.out _ _ _ (f.cells.below ((Below.refl _ _).alloc (Nat.le_refl _) _))).mono ?_;rintro e C ⟨rfl,b⟩;obtain⟨c0,D,c2,c3,f0,f1,f2,f3⟩:=Ey (C6 b))|(go_at_call 85;refine(j.out _).mono ?_;rintro e P ⟨rfl,rfl⟩))
      go_ret2;exact⟨rfl,andThen d (Bb b)⟩
     ·rw[if_neg Q]
      have G:=a.fine.len;have H:=a.fine.sum;have I:=Pg.Ji (Ab p).Ai k r;have u:=Hq (fun A c W l=>Sj (Ab p) A c k r (by omega) (by omega) W l);have J:=Hq (fun A c W l=>Sl (A4 p (Pg.putAt (Ab p).Ai k r)) A c (Dv p _) (by show Pg.Au (Pg.putAt _ _ _)≤_;omega) W l);change Hid (∀ A c W,Cells W A c (Ab p).Ai→Calls _ _ _ _ fun e w'=>∃ K L,e= .returned (Fx (A4 p (Pg.putAt (Ab p).Ai k r)) K L)∧Bo _ w' K L (A4 p (Pg.putAt (Ab p).Ai k r)).Ai∧_)at u;clear I G H E F a;generalize A4 p (Pg.putAt (Ab p).Ai k r)=y at u J ⊢;generalize Pg.El y=o at J ⊢;generalize Ab p=x at g h u;go_enter Tryz.func213,Tryz.ntmps213
      go_wp2_with(first|(go_at_call 76;refine(g.out _).mono ?_;rintro e m ⟨A,c,rfl,f,d⟩)|(go_at_call 86;refine(h.out _ _ _ (f.cells.below ((Below.refl _ _).alloc (Nat.le_refl _) _))).mono ?_;rintro e C ⟨rfl,b⟩;obtain⟨c0,D,c2,c3,f0,f1,f2,f3⟩:=Ey (C6 b))|(go_at_call 85;refine(j.out _).mono ?_;rintro e P ⟨rfl,rfl⟩)|(go_at_call 88;refine(u.out _ _ _ (f.cells.below (Bb b))).mono ?_;rintro e T ⟨K,L,rfl,M,N⟩)|(go_at_call 87;refine(J.out _ _ _ M.cells).mono ?_;rintro e U ⟨rfl,O⟩))
      go_ret2;exact⟨rfl,andThen (andThen (andThen d (Bb b)) N) O⟩
theorem oM (p:ByteArray)(i:Int)(J:p.size≤140737488355328)(w:World):
 Cr 214 #[p,i] w (Ko (Lv p i)):=by
 have g:=Hq (fun W=>Eg p J W);have h:=Hq (fun A c W l=>Xa (Ab p) A c i W l);have a:=Cf p;unfold Lv
 cases m:Bi p with
 |false=>
  rw[if_pos rfl];rw[m]at g;generalize Ab p=x at g;clear a m h;go_enter Tryz.func214,Tryz.ntmps214
  go_wp2_with(first|(go_at_call 76;refine(g.out _).mono ?_;rintro e I ⟨A,c,rfl,d,f⟩))
  go_ret2;exact⟨rfl,At f⟩
 |true=>
  rw[m]at g;rw[if_neg (by simp)];clear m
  by_cases j:(Pg.Az (Ab p).Ai i).size=0
  ·rw[if_pos j]
   rw[P2 j]at h;generalize Ab p=x at g h;clear a j;go_enter Tryz.func214,Tryz.ntmps214
   go_wp2_with(first|(go_at_call 76;refine(g.out _).mono ?_;rintro e I ⟨A,c,rfl,d,f⟩)|(go_at_call 86;refine(h.out _ _ _ (d.cells.below ((Below.refl _ _).alloc (Nat.le_refl _) _))).mono ?_;rintro e K ⟨rfl,b⟩;obtain⟨c0,L,c2,c3,f0,f1,f2,f3⟩:=Ey (C6 b)))
   go_ret2;exact⟨rfl,andThen f (Bb b)⟩
  ·rw[if_neg j]
   obtain⟨r,s⟩:=Pg.I5 j;obtain⟨t,u⟩:=Sp j;clear j;obtain⟨k,rfl⟩:=Int.eq_ofNat_of_zero_le r;rw[show((k:Int)).toNat=k from rfl];have v:=a.fine.len;have z:=a.fine.sum;have B:=Pg.Ji (Ab p).Ai k ⟨#[]⟩;have M:(⟨#[]⟩:ByteArray).size=0:=rfl;have n:=Hq (fun A c W l=>Sj (Ab p) A c k ⟨#[]⟩ (by omega) (by omega) W l);have C:=Hq (fun A c W l=>Sl (A4 p (Pg.putAt (Ab p).Ai k ⟨#[]⟩)) A c (Dv p _) (by show Pg.Au (Pg.putAt _ _ _)≤_;omega) W l);change Hid (∀ A c W,Cells W A c (Ab p).Ai→Calls _ _ _ _ fun e w'=>∃ D E,e= .returned (Fx (A4 p (Pg.putAt (Ab p).Ai k ⟨#[]⟩)) D E)∧Bo _ w' D E (A4 p (Pg.putAt (Ab p).Ai k ⟨#[]⟩)).Ai∧_)at n;clear B v z a M s;generalize A4 p (Pg.putAt (Ab p).Ai k ⟨#[]⟩)=y at n C ⊢;generalize Pg.El y=o at C ⊢;generalize Pg.Az (Ab p).Ai (k:Int)=q at h t u;generalize Ab p=x at g h n;go_enter Tryz.func214,Tryz.ntmps214
   go_wp2_with(first|(go_at_call 76;refine(g.out _).mono ?_;rintro e I ⟨A,c,rfl,d,f⟩)|(go_at_call 86;refine(h.out _ _ _ (d.cells.below ((Below.refl _ _).alloc (Nat.le_refl _) _))).mono ?_;rintro e K ⟨rfl,b⟩;obtain⟨c0,L,c2,c3,f0,f1,f2,f3⟩:=Ey (C6 b))|(go_at_call 88;refine(n.out _ _ _ (d.cells.below (Bb b))).mono ?_;rintro e N ⟨D,E,rfl,F,G⟩)|(go_at_call 87;refine(C.out _ _ _ F.cells).mono ?_;rintro e O ⟨rfl,H⟩))
   go_ret2;exact⟨rfl,andThen (andThen (andThen f (Bb b)) G) H⟩
theorem Zj (p:ByteArray)(i:Int)(r:ByteArray)(P:p.size≤140737488355328)(w:World):
 Cr 40 #[p,i,r] w (Ko (Gn p i r)):=by
 have g:=Hq (fun W=>Eg p P W);have h:=Hq (fun A c W m=>Xa (Ab p) A c i W m);have j:=Hq (fun W=>gC r W);change Hid (∀ W,Calls _ _ _ _ fun e w'=>e= .returned (.bool (He r))∧_)at j;have a:=Cf p;unfold Gn
 cases s:Bi p with
 |false=>
  rw[if_pos rfl];rw[s]at g;generalize Ab p=x at g;clear a s h j;go_enter Tryz.func40,Tryz.ntmps40
  go_wp2_with(first|(go_at_call 76;refine(g.out _).mono ?_;rintro e u ⟨A,c,rfl,d,b⟩))
  go_ret2;exact⟨rfl,At b⟩
 |true=>
  rw[s]at g;rw[if_neg (by simp)];clear s
  cases n:He r with
  |false=>
   rw[if_pos rfl];rw[n]at j;generalize Ab p=x at g;clear a n h;go_enter Tryz.func40,Tryz.ntmps40
   go_wp2_with(first|(go_at_call 76;refine(g.out _).mono ?_;rintro e u ⟨A,c,rfl,d,b⟩)|(go_at_call 85;refine(j.out _).mono ?_;rintro e O ⟨rfl,rfl⟩))
   go_ret2;exact⟨rfl,At b⟩
  |true=>
   rw[if_neg (by simp)];rw[n]at j;obtain⟨v,z⟩:=D5 n;clear n
   by_cases l:(Pg.Az (Ab p).Ai i).size=0
   ·rw[if_pos l]
    rw[P2 l]at h;generalize Ab p=x at g h;clear a l;go_enter Tryz.func40,Tryz.ntmps40
    go_wp2_with(first|(go_at_call 76;refine(g.out _).mono ?_;rintro e u ⟨A,c,rfl,d,b⟩)|(go_at_call 85;refine(j.out _).mono ?_;rintro e O ⟨rfl,rfl⟩)|(go_at_call 86;refine(h.out _ _ _ (d.cells.below ((Below.refl _ _).alloc (Nat.le_refl _) _))).mono ?_;rintro e Q ⟨rfl,f⟩;obtain⟨c0,R,c2,c3,f0,f1,f2,f3⟩:=Ey (C6 f)))
    go_ret2;exact⟨rfl,andThen b (Bb f)⟩
   ·rw[if_neg l]
    obtain⟨B,C⟩:=Pg.I5 l;obtain⟨D,E⟩:=Sp l;clear l;obtain⟨k,rfl⟩:=Int.eq_ofNat_of_zero_le B;rw[show((k:Int)).toNat=k from rfl];have F:=a.fine.len;have G:=a.fine.sum;have H:=Pg.Ji (Ab p).Ai k r;have t:=Hq (fun A c W m=>Sj (Ab p) A c k r (by omega) (by omega) W m);have I:=Hq (fun A c W m=>Sl (A4 p (Pg.putAt (Ab p).Ai k r)) A c (Dv p _) (by show Pg.Au (Pg.putAt _ _ _)≤_;omega) W m);change Hid (∀ A c W,Cells W A c (Ab p).Ai→Calls _ _ _ _ fun e w'=>∃ J K,e= .returned (Fx (A4 p (Pg.putAt (Ab p).Ai k r)) J K)∧Bo _ w' J K (A4 p (Pg.putAt (Ab p).Ai k r)).Ai∧_)at t;clear H F G v z a C;generalize A4 p (Pg.putAt (Ab p).Ai k r)=y at t I ⊢;generalize Pg.El y=o at I ⊢;generalize Pg.Az (Ab p).Ai (k:Int)=q at h D E;generalize Ab p=x at g h t;go_enter Tryz.func40,Tryz.ntmps40
    go_wp2_with(first|(go_at_call 76;refine(g.out _).mono ?_;rintro e u ⟨A,c,rfl,d,b⟩)|(go_at_call 85;refine(j.out _).mono ?_;rintro e O ⟨rfl,rfl⟩)|(go_at_call 86;refine(h.out _ _ _ (d.cells.below ((Below.refl _ _).alloc (Nat.le_refl _) _))).mono ?_;rintro e Q ⟨rfl,f⟩;obtain⟨c0,R,c2,c3,f0,f1,f2,f3⟩:=Ey (C6 f))|(go_at_call 88;refine(t.out _ _ _ (d.cells.below (Bb f))).mono ?_;rintro e S ⟨J,K,rfl,L,M⟩)|(go_at_call 87;refine(I.out _ _ _ L.cells).mono ?_;rintro e T ⟨rfl,N⟩))
    go_ret2;exact⟨rfl,andThen (andThen (andThen b (Bb f)) M) N⟩
end Go.Proofs.YtpogpkonojhakaaGreatDoor
