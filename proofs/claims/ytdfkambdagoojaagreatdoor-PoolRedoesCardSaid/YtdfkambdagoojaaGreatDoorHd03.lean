import Derived.Test.YtdfkambdagoojaaGreatDoorHd00
import Derived.Test.YtdfkambdagoojaaGreatDoorHd02
set_option maxRecDepth 100000
set_option maxHeartbeats 16000000
set_option linter.unusedSimpArgs false
namespace Go.Proofs.YtdfkambdagoojaaGreatDoor
open Go.RowKit
def G9 (r:ByteArray):Bool:=decide (1≤r.size∧r.size≤400)
theorem Eb {r:ByteArray}(h:G9 r=true):1≤r.size∧r.size≤400:=by unfold G9 at h;exact of_decide_eq_true h
def A9 (p:ByteArray)(rs:List ByteArray):Pg.Dg:={Ac p with recs:=rs}
theorem Cl (p:ByteArray):Pg.Good (Ac p):=Pg.aX _
theorem Ct (p:ByteArray)(rs:List ByteArray):Pg.Small (A9 p rs):=(Cl p).fine.small
def Iv (p:ByteArray)(i:Int)(r:ByteArray):ByteArray×Int:=
 if Bo p=false then(⟨#[]⟩,1)else if i<0 then(⟨#[]⟩,1)else if(Pg.Ay (Ac p).recs i).size≠0 then(⟨#[]⟩,1)
 else if G9 r=false then(⟨#[]⟩,1)else if 512<i then(⟨#[]⟩,18)else Pg.Ea (A9 p (Pg.putAt (Ac p).recs i.toNat r))
def K8 (p:ByteArray)(i:Int):ByteArray×Int:=
 if Bo p=false then(⟨#[]⟩,1)else if(Pg.Ay (Ac p).recs i).size=0 then(⟨#[]⟩,21)else Pg.Ea (A9 p (Pg.putAt (Ac p).recs i.toNat ⟨#[]⟩))
def Jy (p:ByteArray)(i:Int)(r:ByteArray):ByteArray×Int:=
 if Bo p=false then(⟨#[]⟩,1)else if G9 r=false then(⟨#[]⟩,1)else if(Pg.Ay (Ac p).recs i).size=0 then(⟨#[]⟩,21)
 else Pg.Ea (A9 p (Pg.putAt (Ac p).recs i.toNat r))
theorem Oa {q:ByteArray}(h:q.size=0):q=⟨#[]⟩:=Kd h
theorem P5 {q:ByteArray}(h:¬ q.size=0):q.toList.isEmpty=false∧¬ q.toList=[]:=by
 have a:q.toList.isEmpty=false:=by rw[Hk];exact decide_eq_false h
 exact⟨a,fun e=>by rw[e]at a;cases a⟩
theorem qE (p:ByteArray)(i:Int)(r:ByteArray)(Q:p.size≤140737488355328)(w:World):
 Cr 173 #[p,i,r] w (G7 (Iv p i r)):=by
 have g:=Hq (fun W=>Ey p Q W);have h:=Hq (fun A c W l=>Rb (Ac p) A c i W l);have j:=Hq (fun W=>Tl r W);change Hid (∀ W,Calls _ _ _ _ fun e w'=>e= .returned (.bool (G9 r))∧_)at j;have a:=Cl p;unfold Iv
 cases t:Bo p with
 |false=>
  rw[if_pos rfl];rw[t]at g;generalize Ac p=x at g;clear a t h j;go_enter Tryz.func173,Tryz.ntmps173
  go_wp2_with(first|(go_at_call 122;refine(g.out _).mono ?_;rintro e m ⟨A,c,rfl,f,d⟩))
  go_ret2;exact⟨rfl,An d⟩
 |true=>
  rw[t]at g;rw[if_neg (by simp)];clear t
  by_cases v:i<0
  ·rw[if_pos v]
   generalize Ac p=x at g;clear a h j;go_enter Tryz.func173,Tryz.ntmps173
   go_wp2_with(first|(go_at_call 122;refine(g.out _).mono ?_;rintro e m ⟨A,c,rfl,f,d⟩))
   go_ret2;exact⟨rfl,An d⟩
  ·rw[if_neg v]
   obtain⟨k,rfl⟩:=Int.eq_ofNat_of_zero_le (show 0≤i by omega);have R:(0:Int)≤(k:Int):=(by omega);clear v;rw[show((k:Int)).toNat=k from rfl]
   by_cases n:(Pg.Ay (Ac p).recs (k:Int)).size≠0
   ·rw[if_pos n]
    obtain⟨z,B⟩:=P5 n;clear n;generalize Pg.Ay (Ac p).recs (k:Int)=q at h z B;generalize Ac p=x at g h;clear a j;go_enter Tryz.func173,Tryz.ntmps173
    go_wp2_with(first|(go_at_call 122;refine(g.out _).mono ?_;rintro e m ⟨A,c,rfl,f,d⟩)|(go_at_call 205;refine(h.out _ _ _ (f.cells.below ((Below.refl _ _).alloc (Nat.le_refl _) _))).mono ?_;rintro e C ⟨rfl,b⟩;obtain⟨c0,c1,c2,c3,f0,f1,f2,f3⟩:=Dw (Cm b)))
    go_ret2;exact⟨rfl,andThen d (Bd b)⟩
   ·rw[if_neg n]
    rw[Oa (q:=Pg.Ay (Ac p).recs (k:Int)) (by omega)]at h;clear n
    cases s:G9 r with
    |false=>
     rw[if_pos rfl];rw[s]at j;generalize Ac p=x at g h;clear a s;go_enter Tryz.func173,Tryz.ntmps173
     go_wp2_with(first|(go_at_call 122;refine(g.out _).mono ?_;rintro e m ⟨A,c,rfl,f,d⟩)|(go_at_call 205;refine(h.out _ _ _ (f.cells.below ((Below.refl _ _).alloc (Nat.le_refl _) _))).mono ?_;rintro e C ⟨rfl,b⟩;obtain⟨c0,c1,c2,c3,f0,f1,f2,f3⟩:=Dw (Cm b))|(go_at_call 206;refine(j.out _).mono ?_;rintro e O ⟨rfl,rfl⟩))
     go_ret2;exact⟨rfl,andThen d (Bd b)⟩
    |true=>
     rw[if_neg (by simp)];rw[s]at j;obtain⟨D,E⟩:=Eb s;clear s
     by_cases P:(512:Int)<(k:Int)
     ·rw[if_pos P]
      generalize Ac p=x at g h;clear a;go_enter Tryz.func173,Tryz.ntmps173
      go_wp2_with(first|(go_at_call 122;refine(g.out _).mono ?_;rintro e m ⟨A,c,rfl,f,d⟩)|(go_at_call 205;refine(h.out _ _ _ (f.cells.below ((Below.refl _ _).alloc (Nat.le_refl _) _))).mono ?_;rintro e C ⟨rfl,b⟩;obtain⟨c0,c1,c2,c3,f0,f1,f2,f3⟩:=Dw (Cm b))|(go_at_call 206;refine(j.out _).mono ?_;rintro e O ⟨rfl,rfl⟩))
      go_ret2;exact⟨rfl,andThen d (Bd b)⟩
     ·rw[if_neg P]
      have F:=a.fine.len;have G:=a.fine.sum;have H:=Pg.Gk (Ac p).recs k r;have u:=Hq (fun A c W l=>P2 (Ac p) A c k r (by omega) (by omega) W l);have I:=Hq (fun A c W l=>L5 (A9 p (Pg.putAt (Ac p).recs k r)) A c (Ct p _) (by show Pg.Bb (Pg.putAt _ _ _)≤_;omega) W l);change Hid (∀ A c W,Cells W A c (Ac p).recs→Calls _ _ _ _ fun e w'=>∃ J K,e= .returned (Gi (A9 p (Pg.putAt (Ac p).recs k r)) J K)∧Bi _ w' J K (A9 p (Pg.putAt (Ac p).recs k r)).recs∧_)at u;clear H F G D E a;generalize A9 p (Pg.putAt (Ac p).recs k r)=y at u I ⊢;generalize Pg.Ea y=o at I ⊢;generalize Ac p=x at g h u;go_enter Tryz.func173,Tryz.ntmps173
      go_wp2_with(first|(go_at_call 122;refine(g.out _).mono ?_;rintro e m ⟨A,c,rfl,f,d⟩)|(go_at_call 205;refine(h.out _ _ _ (f.cells.below ((Below.refl _ _).alloc (Nat.le_refl _) _))).mono ?_;rintro e C ⟨rfl,b⟩;obtain⟨c0,c1,c2,c3,f0,f1,f2,f3⟩:=Dw (Cm b))|(go_at_call 206;refine(j.out _).mono ?_;rintro e O ⟨rfl,rfl⟩)|(go_at_call 208;refine(u.out _ _ _ (f.cells.below (Bd b))).mono ?_;rintro e S ⟨J,K,rfl,L,M⟩)|(go_at_call 207;refine(I.out _ _ _ L.cells).mono ?_;rintro e T ⟨rfl,N⟩))
      go_ret2;exact⟨rfl,andThen (andThen (andThen d (Bd b)) M) N⟩
theorem qF (p:ByteArray)(i:Int)(J:p.size≤140737488355328)(w:World):
 Cr 174 #[p,i] w (G7 (K8 p i)):=by
 have g:=Hq (fun W=>Ey p J W);have h:=Hq (fun A c W l=>Rb (Ac p) A c i W l);have a:=Cl p;unfold K8
 cases m:Bo p with
 |false=>
  rw[if_pos rfl];rw[m]at g;generalize Ac p=x at g;clear a m h;go_enter Tryz.func174,Tryz.ntmps174
  go_wp2_with(first|(go_at_call 122;refine(g.out _).mono ?_;rintro e I ⟨A,c,rfl,d,f⟩))
  go_ret2;exact⟨rfl,An f⟩
 |true=>
  rw[m]at g;rw[if_neg (by simp)];clear m
  by_cases j:(Pg.Ay (Ac p).recs i).size=0
  ·rw[if_pos j]
   rw[Oa j]at h;generalize Ac p=x at g h;clear a j;go_enter Tryz.func174,Tryz.ntmps174
   go_wp2_with(first|(go_at_call 122;refine(g.out _).mono ?_;rintro e I ⟨A,c,rfl,d,f⟩)|(go_at_call 205;refine(h.out _ _ _ (d.cells.below ((Below.refl _ _).alloc (Nat.le_refl _) _))).mono ?_;rintro e K ⟨rfl,b⟩;obtain⟨c0,c1,c2,c3,f0,f1,f2,f3⟩:=Dw (Cm b)))
   go_ret2;exact⟨rfl,andThen f (Bd b)⟩
  ·rw[if_neg j]
   obtain⟨r,s⟩:=Pg.Gs j;obtain⟨t,u⟩:=P5 j;clear j;obtain⟨k,rfl⟩:=Int.eq_ofNat_of_zero_le r;rw[show((k:Int)).toNat=k from rfl];have v:=a.fine.len;have z:=a.fine.sum;have B:=Pg.Gk (Ac p).recs k ⟨#[]⟩;have L:(⟨#[]⟩:ByteArray).size=0:=rfl;have n:=Hq (fun A c W l=>P2 (Ac p) A c k ⟨#[]⟩ (by omega) (by omega) W l);have C:=Hq (fun A c W l=>L5 (A9 p (Pg.putAt (Ac p).recs k ⟨#[]⟩)) A c (Ct p _) (by show Pg.Bb (Pg.putAt _ _ _)≤_;omega) W l);change Hid (∀ A c W,Cells W A c (Ac p).recs→Calls _ _ _ _ fun e w'=>∃ D E,e= .returned (Gi (A9 p (Pg.putAt (Ac p).recs k ⟨#[]⟩)) D E)∧Bi _ w' D E (A9 p (Pg.putAt (Ac p).recs k ⟨#[]⟩)).recs∧_)at n;clear B v z a L s;generalize A9 p (Pg.putAt (Ac p).recs k ⟨#[]⟩)=y at n C ⊢;generalize Pg.Ea y=o at C ⊢;generalize Pg.Ay (Ac p).recs (k:Int)=q at h t u;generalize Ac p=x at g h n;go_enter Tryz.func174,Tryz.ntmps174
   go_wp2_with(first|(go_at_call 122;refine(g.out _).mono ?_;rintro e I ⟨A,c,rfl,d,f⟩)|(go_at_call 205;refine(h.out _ _ _ (d.cells.below ((Below.refl _ _).alloc (Nat.le_refl _) _))).mono ?_;rintro e K ⟨rfl,b⟩;obtain⟨c0,c1,c2,c3,f0,f1,f2,f3⟩:=Dw (Cm b))|(go_at_call 208;refine(n.out _ _ _ (d.cells.below (Bd b))).mono ?_;rintro e M ⟨D,E,rfl,F,G⟩)|(go_at_call 207;refine(C.out _ _ _ F.cells).mono ?_;rintro e N ⟨rfl,H⟩))
   go_ret2;exact⟨rfl,andThen (andThen (andThen f (Bd b)) G) H⟩
theorem qG (p:ByteArray)(i:Int)(r:ByteArray)(P:p.size≤140737488355328)(w:World):
 Cr 175 #[p,i,r] w (G7 (Jy p i r)):=by
 have g:=Hq (fun W=>Ey p P W);have h:=Hq (fun A c W m=>Rb (Ac p) A c i W m);have j:=Hq (fun W=>Tl r W);change Hid (∀ W,Calls _ _ _ _ fun e w'=>e= .returned (.bool (G9 r))∧_)at j;have a:=Cl p;unfold Jy
 cases s:Bo p with
 |false=>
  rw[if_pos rfl];rw[s]at g;generalize Ac p=x at g;clear a s h j;go_enter Tryz.func175,Tryz.ntmps175
  go_wp2_with(first|(go_at_call 122;refine(g.out _).mono ?_;rintro e u ⟨A,c,rfl,d,b⟩))
  go_ret2;exact⟨rfl,An b⟩
 |true=>
  rw[s]at g;rw[if_neg (by simp)];clear s
  cases n:G9 r with
  |false=>
   rw[if_pos rfl];rw[n]at j;generalize Ac p=x at g;clear a n h;go_enter Tryz.func175,Tryz.ntmps175
   go_wp2_with(first|(go_at_call 122;refine(g.out _).mono ?_;rintro e u ⟨A,c,rfl,d,b⟩)|(go_at_call 206;refine(j.out _).mono ?_;rintro e O ⟨rfl,rfl⟩))
   go_ret2;exact⟨rfl,An b⟩
  |true=>
   rw[if_neg (by simp)];rw[n]at j;obtain⟨v,z⟩:=Eb n;clear n
   by_cases l:(Pg.Ay (Ac p).recs i).size=0
   ·rw[if_pos l]
    rw[Oa l]at h;generalize Ac p=x at g h;clear a l;go_enter Tryz.func175,Tryz.ntmps175
    go_wp2_with(first|(go_at_call 122;refine(g.out _).mono ?_;rintro e u ⟨A,c,rfl,d,b⟩)|(go_at_call 206;refine(j.out _).mono ?_;rintro e O ⟨rfl,rfl⟩)|(go_at_call 205;refine(h.out _ _ _ (d.cells.below ((Below.refl _ _).alloc (Nat.le_refl _) _))).mono ?_;rintro e Q ⟨rfl,f⟩;obtain⟨c0,c1,c2,c3,f0,f1,f2,f3⟩:=Dw (Cm f)))
    go_ret2;exact⟨rfl,andThen b (Bd f)⟩
   ·rw[if_neg l]
    obtain⟨B,C⟩:=Pg.Gs l;obtain⟨D,E⟩:=P5 l;clear l;obtain⟨k,rfl⟩:=Int.eq_ofNat_of_zero_le B;rw[show((k:Int)).toNat=k from rfl];have F:=a.fine.len;have G:=a.fine.sum;have H:=Pg.Gk (Ac p).recs k r;have t:=Hq (fun A c W m=>P2 (Ac p) A c k r (by omega) (by omega) W m);have I:=Hq (fun A c W m=>L5 (A9 p (Pg.putAt (Ac p).recs k r)) A c (Ct p _) (by show Pg.Bb (Pg.putAt _ _ _)≤_;omega) W m);change Hid (∀ A c W,Cells W A c (Ac p).recs→Calls _ _ _ _ fun e w'=>∃ J K,e= .returned (Gi (A9 p (Pg.putAt (Ac p).recs k r)) J K)∧Bi _ w' J K (A9 p (Pg.putAt (Ac p).recs k r)).recs∧_)at t;clear H F G v z a C;generalize A9 p (Pg.putAt (Ac p).recs k r)=y at t I ⊢;generalize Pg.Ea y=o at I ⊢;generalize Pg.Ay (Ac p).recs (k:Int)=q at h D E;generalize Ac p=x at g h t;go_enter Tryz.func175,Tryz.ntmps175
    go_wp2_with(first|(go_at_call 122;refine(g.out _).mono ?_;rintro e u ⟨A,c,rfl,d,b⟩)|(go_at_call 206;refine(j.out _).mono ?_;rintro e O ⟨rfl,rfl⟩)|(go_at_call 205;refine(h.out _ _ _ (d.cells.below ((Below.refl _ _).alloc (Nat.le_refl _) _))).mono ?_;rintro e Q ⟨rfl,f⟩;obtain⟨c0,c1,c2,c3,f0,f1,f2,f3⟩:=Dw (Cm f))|(go_at_call 208;refine(t.out _ _ _ (d.cells.below (Bd f))).mono ?_;rintro e R ⟨J,K,rfl,L,M⟩)|(go_at_call 207;refine(I.out _ _ _ L.cells).mono ?_;rintro e S ⟨rfl,N⟩))
    go_ret2;exact⟨rfl,andThen (andThen (andThen b (Bd f)) M) N⟩
end Go.Proofs.YtdfkambdagoojaaGreatDoor
