import Derived.Test.YtmldoihahndcgaaGreatDoorHq00
import Derived.Test.YtmldoihahndcgaaGreatDoorHq02
set_option maxRecDepth 100000
set_option maxHeartbeats 16000000
set_option linter.unusedSimpArgs false
namespace Go.Proofs.YtmldoihahndcgaaGreatDoor
open Go.RowKit
def Gp (r:ByteArray):Bool:=decide (1≤r.size∧r.size≤400)
theorem D0 {r:ByteArray}(h:Gp r=true):1≤r.size∧r.size≤400:=by unfold Gp at h;exact of_decide_eq_true h
def A4 (p:ByteArray)(rs:List ByteArray):Pg.C7:={Ab p with recs:=rs}
theorem Cf (p:ByteArray):Pg.Good (Ab p):=Pg.Xx _
theorem Co (p:ByteArray)(rs:List ByteArray):Pg.Small (A4 p rs):=(Cf p).fine.small
def Hk (p:ByteArray)(i:Int)(r:ByteArray):ByteArray×Int:=
 if Bj p=false then(⟨#[]⟩,1)else if i<0 then(⟨#[]⟩,1)else if(Pg.Aw (Ab p).recs i).size≠0 then(⟨#[]⟩,1)
 else if Gp r=false then(⟨#[]⟩,1)else if 512<i then(⟨#[]⟩,18)else Pg.Dz (A4 p (Pg.putAt (Ab p).recs i.toNat r))
def Jp (p:ByteArray)(i:Int):ByteArray×Int:=
 if Bj p=false then(⟨#[]⟩,1)else if(Pg.Aw (Ab p).recs i).size=0 then(⟨#[]⟩,21)else Pg.Dz (A4 p (Pg.putAt (Ab p).recs i.toNat ⟨#[]⟩))
def Iu (p:ByteArray)(i:Int)(r:ByteArray):ByteArray×Int:=
 if Bj p=false then(⟨#[]⟩,1)else if Gp r=false then(⟨#[]⟩,1)else if(Pg.Aw (Ab p).recs i).size=0 then(⟨#[]⟩,21)
 else Pg.Dz (A4 p (Pg.putAt (Ab p).recs i.toNat r))
theorem Me {q:ByteArray}(h:q.size=0):q=⟨#[]⟩:=Pf h
theorem N9 {q:ByteArray}(h:¬ q.size=0):q.toList.isEmpty=false∧¬ q.toList=[]:=by
 have a:q.toList.isEmpty=false:=by rw[Gt];exact decide_eq_false h
 exact⟨a,fun e=>by rw[e]at a;cases a⟩
theorem lG (p:ByteArray)(i:Int)(r:ByteArray)(Q:p.size≤140737488355328)(w:World):
 Cr 128 #[p,i,r] w (Gm (Hk p i r)):=by
 have g:=Hq (fun W=>Em p Q W);have h:=Hq (fun A c W l=>Pe (Ab p) A c i W l);have j:=Hq (fun W=>Q7 r W);change Hid (∀ W,Calls _ _ _ _ fun e w'=>e= .returned (.bool (Gp r))∧_)at j;have a:=Cf p;unfold Hk
 cases t:Bj p with
 |false=>
  rw[if_pos rfl];rw[t]at g;generalize Ab p=x at g;clear a t h j;go_enter Tryz.func128,Tryz.ntmps128
  go_wp2_with(first|(go_at_call 72;refine(g.out _).mono ?_;rintro e m ⟨A,c,rfl,f,d⟩))
  go_ret2;exact⟨rfl,Ap d⟩
 |true=>
  rw[t]at g;rw[if_neg (by simp)];clear t
  by_cases v:i<0
  ·rw[if_pos v]
   generalize Ab p=x at g;clear a h j;go_enter Tryz.func128,Tryz.ntmps128
   go_wp2_with(first|(go_at_call 72;refine(g.out _).mono ?_;rintro e m ⟨A,c,rfl,f,d⟩))
   go_ret2;exact⟨rfl,Ap d⟩
  ·rw[if_neg v]
   obtain⟨k,rfl⟩:=Int.eq_ofNat_of_zero_le (show 0≤i by omega);have R:(0:Int)≤(k:Int):=(by omega);clear v;rw[show((k:Int)).toNat=k from rfl]
   by_cases n:(Pg.Aw (Ab p).recs (k:Int)).size≠0
   ·rw[if_pos n]
    obtain⟨z,B⟩:=N9 n;clear n;generalize Pg.Aw (Ab p).recs (k:Int)=q at h z B;generalize Ab p=x at g h;clear a j;go_enter Tryz.func128,Tryz.ntmps128
    go_wp2_with(first|(go_at_call 72;refine(g.out _).mono ?_;rintro e m ⟨A,c,rfl,f,d⟩)|(go_at_call 161;refine(h.out _ _ _ (f.cells.below ((Below.refl _ _).alloc (Nat.le_refl _) _))).mono ?_;rintro e C ⟨rfl,b⟩;obtain⟨c0,c1,c2,c3,f0,f1,f2,f3⟩:=Dh (Ch b)))
    go_ret2;exact⟨rfl,andThen d (Bb b)⟩
   ·rw[if_neg n]
    rw[Me (q:=Pg.Aw (Ab p).recs (k:Int)) (by omega)]at h;clear n
    cases s:Gp r with
    |false=>
     rw[if_pos rfl];rw[s]at j;generalize Ab p=x at g h;clear a s;go_enter Tryz.func128,Tryz.ntmps128
     go_wp2_with(first|(go_at_call 72;refine(g.out _).mono ?_;rintro e m ⟨A,c,rfl,f,d⟩)|(go_at_call 161;refine(h.out _ _ _ (f.cells.below ((Below.refl _ _).alloc (Nat.le_refl _) _))).mono ?_;rintro e C ⟨rfl,b⟩;obtain⟨c0,c1,c2,c3,f0,f1,f2,f3⟩:=Dh (Ch b))|(go_at_call 160;refine(j.out _).mono ?_;rintro e O ⟨rfl,rfl⟩))
     go_ret2;exact⟨rfl,andThen d (Bb b)⟩
    |true=>
     rw[if_neg (by simp)];rw[s]at j;obtain⟨D,E⟩:=D0 s;clear s
     by_cases P:(512:Int)<(k:Int)
     ·rw[if_pos P]
      generalize Ab p=x at g h;clear a;go_enter Tryz.func128,Tryz.ntmps128
      go_wp2_with(first|(go_at_call 72;refine(g.out _).mono ?_;rintro e m ⟨A,c,rfl,f,d⟩)|(go_at_call 161;refine(h.out _ _ _ (f.cells.below ((Below.refl _ _).alloc (Nat.le_refl _) _))).mono ?_;rintro e C ⟨rfl,b⟩;obtain⟨c0,c1,c2,c3,f0,f1,f2,f3⟩:=Dh (Ch b))|(go_at_call 160;refine(j.out _).mono ?_;rintro e O ⟨rfl,rfl⟩))
      go_ret2;exact⟨rfl,andThen d (Bb b)⟩
     ·rw[if_neg P]
      have F:=a.fine.len;have G:=a.fine.sum;have H:=Pg.F7 (Ab p).recs k r;have u:=Hq (fun A c W l=>N6 (Ab p) A c k r (by omega) (by omega) W l);have I:=Hq (fun A c W l=>Kb (A4 p (Pg.putAt (Ab p).recs k r)) A c (Co p _) (by show Pg.Ba (Pg.putAt _ _ _)≤_;omega) W l);change Hid (∀ A c W,Cells W A c (Ab p).recs→Calls _ _ _ _ fun e w'=>∃ J K,e= .returned (F6 (A4 p (Pg.putAt (Ab p).recs k r)) J K)∧Bh _ w' J K (A4 p (Pg.putAt (Ab p).recs k r)).recs∧_)at u;clear H F G D E a;generalize A4 p (Pg.putAt (Ab p).recs k r)=y at u I ⊢;generalize Pg.Dz y=o at I ⊢;generalize Ab p=x at g h u;go_enter Tryz.func128,Tryz.ntmps128
      go_wp2_with(first|(go_at_call 72;refine(g.out _).mono ?_;rintro e m ⟨A,c,rfl,f,d⟩)|(go_at_call 161;refine(h.out _ _ _ (f.cells.below ((Below.refl _ _).alloc (Nat.le_refl _) _))).mono ?_;rintro e C ⟨rfl,b⟩;obtain⟨c0,c1,c2,c3,f0,f1,f2,f3⟩:=Dh (Ch b))|(go_at_call 160;refine(j.out _).mono ?_;rintro e O ⟨rfl,rfl⟩)|(go_at_call 163;refine(u.out _ _ _ (f.cells.below (Bb b))).mono ?_;rintro e S ⟨J,K,rfl,L,M⟩)|(go_at_call 162;refine(I.out _ _ _ L.cells).mono ?_;rintro e T ⟨rfl,N⟩))
      go_ret2;exact⟨rfl,andThen (andThen (andThen d (Bb b)) M) N⟩
theorem lH (p:ByteArray)(i:Int)(J:p.size≤140737488355328)(w:World):
 Cr 278 #[p,i] w (Gm (Jp p i)):=by
 have g:=Hq (fun W=>Em p J W);have h:=Hq (fun A c W l=>Pe (Ab p) A c i W l);have a:=Cf p;unfold Jp
 cases m:Bj p with
 |false=>
  rw[if_pos rfl];rw[m]at g;generalize Ab p=x at g;clear a m h;go_enter Tryz.func278,Tryz.ntmps278
  go_wp2_with(first|(go_at_call 72;refine(g.out _).mono ?_;rintro e I ⟨A,c,rfl,d,f⟩))
  go_ret2;exact⟨rfl,Ap f⟩
 |true=>
  rw[m]at g;rw[if_neg (by simp)];clear m
  by_cases j:(Pg.Aw (Ab p).recs i).size=0
  ·rw[if_pos j]
   rw[Me j]at h;generalize Ab p=x at g h;clear a j;go_enter Tryz.func278,Tryz.ntmps278
   go_wp2_with(first|(go_at_call 72;refine(g.out _).mono ?_;rintro e I ⟨A,c,rfl,d,f⟩)|(go_at_call 161;refine(h.out _ _ _ (d.cells.below ((Below.refl _ _).alloc (Nat.le_refl _) _))).mono ?_;rintro e K ⟨rfl,b⟩;obtain⟨c0,c1,c2,c3,f0,f1,f2,f3⟩:=Dh (Ch b)))
   go_ret2;exact⟨rfl,andThen f (Bb b)⟩
  ·rw[if_neg j]
   obtain⟨r,s⟩:=Pg.Gc j;obtain⟨t,u⟩:=N9 j;clear j;obtain⟨k,rfl⟩:=Int.eq_ofNat_of_zero_le r;rw[show((k:Int)).toNat=k from rfl];have v:=a.fine.len;have z:=a.fine.sum;have B:=Pg.F7 (Ab p).recs k ⟨#[]⟩;have L:(⟨#[]⟩:ByteArray).size=0:=rfl;have n:=Hq (fun A c W l=>N6 (Ab p) A c k ⟨#[]⟩ (by omega) (by omega) W l);have C:=Hq (fun A c W l=>Kb (A4 p (Pg.putAt (Ab p).recs k ⟨#[]⟩)) A c (Co p _) (by show Pg.Ba (Pg.putAt _ _ _)≤_;omega) W l);change Hid (∀ A c W,Cells W A c (Ab p).recs→Calls _ _ _ _ fun e w'=>∃ D E,e= .returned (F6 (A4 p (Pg.putAt (Ab p).recs k ⟨#[]⟩)) D E)∧Bh _ w' D E (A4 p (Pg.putAt (Ab p).recs k ⟨#[]⟩)).recs∧_)at n;clear B v z a L s;generalize A4 p (Pg.putAt (Ab p).recs k ⟨#[]⟩)=y at n C ⊢;generalize Pg.Dz y=o at C ⊢;generalize Pg.Aw (Ab p).recs (k:Int)=q at h t u;generalize Ab p=x at g h n;go_enter Tryz.func278,Tryz.ntmps278
   go_wp2_with(first|(go_at_call 72;refine(g.out _).mono ?_;rintro e I ⟨A,c,rfl,d,f⟩)|(go_at_call 161;refine(h.out _ _ _ (d.cells.below ((Below.refl _ _).alloc (Nat.le_refl _) _))).mono ?_;rintro e K ⟨rfl,b⟩;obtain⟨c0,c1,c2,c3,f0,f1,f2,f3⟩:=Dh (Ch b))|(go_at_call 163;refine(n.out _ _ _ (d.cells.below (Bb b))).mono ?_;rintro e M ⟨D,E,rfl,F,G⟩)|(go_at_call 162;refine(C.out _ _ _ F.cells).mono ?_;rintro e N ⟨rfl,H⟩))
   go_ret2;exact⟨rfl,andThen (andThen (andThen f (Bb b)) G) H⟩
theorem lI (p:ByteArray)(i:Int)(r:ByteArray)(P:p.size≤140737488355328)(w:World):
 Cr 83 #[p,i,r] w (Gm (Iu p i r)):=by
 have g:=Hq (fun W=>Em p P W);have h:=Hq (fun A c W m=>Pe (Ab p) A c i W m);have j:=Hq (fun W=>Q7 r W);change Hid (∀ W,Calls _ _ _ _ fun e w'=>e= .returned (.bool (Gp r))∧_)at j;have a:=Cf p;unfold Iu
 cases s:Bj p with
 |false=>
  rw[if_pos rfl];rw[s]at g;generalize Ab p=x at g;clear a s h j;go_enter Tryz.func83,Tryz.ntmps83
  go_wp2_with(first|(go_at_call 72;refine(g.out _).mono ?_;rintro e u ⟨A,c,rfl,d,b⟩))
  go_ret2;exact⟨rfl,Ap b⟩
 |true=>
  rw[s]at g;rw[if_neg (by simp)];clear s
  cases n:Gp r with
  |false=>
   rw[if_pos rfl];rw[n]at j;generalize Ab p=x at g;clear a n h;go_enter Tryz.func83,Tryz.ntmps83
   go_wp2_with(first|(go_at_call 72;refine(g.out _).mono ?_;rintro e u ⟨A,c,rfl,d,b⟩)|(go_at_call 160;refine(j.out _).mono ?_;rintro e O ⟨rfl,rfl⟩))
   go_ret2;exact⟨rfl,Ap b⟩
  |true=>
   rw[if_neg (by simp)];rw[n]at j;obtain⟨v,z⟩:=D0 n;clear n
   by_cases l:(Pg.Aw (Ab p).recs i).size=0
   ·rw[if_pos l]
    rw[Me l]at h;generalize Ab p=x at g h;clear a l;go_enter Tryz.func83,Tryz.ntmps83
    go_wp2_with(first|(go_at_call 72;refine(g.out _).mono ?_;rintro e u ⟨A,c,rfl,d,b⟩)|(go_at_call 160;refine(j.out _).mono ?_;rintro e O ⟨rfl,rfl⟩)|(go_at_call 161;refine(h.out _ _ _ (d.cells.below ((Below.refl _ _).alloc (Nat.le_refl _) _))).mono ?_;rintro e Q ⟨rfl,f⟩;obtain⟨c0,c1,c2,c3,f0,f1,f2,f3⟩:=Dh (Ch f)))
    go_ret2;exact⟨rfl,andThen b (Bb f)⟩
   ·rw[if_neg l]
    obtain⟨B,C⟩:=Pg.Gc l;obtain⟨D,E⟩:=N9 l;clear l;obtain⟨k,rfl⟩:=Int.eq_ofNat_of_zero_le B;rw[show((k:Int)).toNat=k from rfl];have F:=a.fine.len;have G:=a.fine.sum;have H:=Pg.F7 (Ab p).recs k r;have t:=Hq (fun A c W m=>N6 (Ab p) A c k r (by omega) (by omega) W m);have I:=Hq (fun A c W m=>Kb (A4 p (Pg.putAt (Ab p).recs k r)) A c (Co p _) (by show Pg.Ba (Pg.putAt _ _ _)≤_;omega) W m);change Hid (∀ A c W,Cells W A c (Ab p).recs→Calls _ _ _ _ fun e w'=>∃ J K,e= .returned (F6 (A4 p (Pg.putAt (Ab p).recs k r)) J K)∧Bh _ w' J K (A4 p (Pg.putAt (Ab p).recs k r)).recs∧_)at t;clear H F G v z a C;generalize A4 p (Pg.putAt (Ab p).recs k r)=y at t I ⊢;generalize Pg.Dz y=o at I ⊢;generalize Pg.Aw (Ab p).recs (k:Int)=q at h D E;generalize Ab p=x at g h t;go_enter Tryz.func83,Tryz.ntmps83
    go_wp2_with(first|(go_at_call 72;refine(g.out _).mono ?_;rintro e u ⟨A,c,rfl,d,b⟩)|(go_at_call 160;refine(j.out _).mono ?_;rintro e O ⟨rfl,rfl⟩)|(go_at_call 161;refine(h.out _ _ _ (d.cells.below ((Below.refl _ _).alloc (Nat.le_refl _) _))).mono ?_;rintro e Q ⟨rfl,f⟩;obtain⟨c0,c1,c2,c3,f0,f1,f2,f3⟩:=Dh (Ch f))|(go_at_call 163;refine(t.out _ _ _ (d.cells.below (Bb f))).mono ?_;rintro e R ⟨J,K,rfl,L,M⟩)|(go_at_call 162;refine(I.out _ _ _ L.cells).mono ?_;rintro e S ⟨rfl,N⟩))
    go_ret2;exact⟨rfl,andThen (andThen (andThen b (Bb f)) M) N⟩
end Go.Proofs.YtmldoihahndcgaaGreatDoor
