import Derived.Test.YtdfkambdagoojaaGreatDoorHd00
import Derived.Test.YtdfkambdagoojaaGreatDoorHd16
import Derived.Test.YtdfkambdagoojaaGreatDoorHd06
import Derived.Test.YtdfkambdagoojaaGreatDoorHd11
import Derived.Test.YtdfkambdagoojaaGreatDoorHd20
import Derived.Test.YtdfkambdagoojaaGreatDoorHd13
import Derived.Test.YtdfkambdagoojaaGreatDoorHd12
set_option maxRecDepth 100000
set_option maxHeartbeats 16000000
set_option linter.unusedSimpArgs false
namespace Go.Proofs.YtdfkambdagoojaaGreatDoor
open Go.RowKit
theorem xN (d:Lg.Dk)(A:Option Addr)(c:Nat)(a:Int)(w:World):
 Cr 82 #[Dj d A c,a] w (.bool (decide (Lg.Hi d a))):=by
 obtain⟨L,left,down⟩:=d
 by_cases b:0≤a
 ·by_cases e:a<(L.length:Int)
  ·rw[decide_eq_true (show Lg.Hi ⟨L,left,down⟩ a from And.intro b e)]
   go_enter Tryz.func82,Tryz.ntmps82;go_wp2_with fail;go_ret;exact⟨by simp,Ag _ _⟩
  ·rw[decide_eq_false (show ¬ Lg.Hi ⟨L,left,down⟩ a from fun h=>e h.2)]
   go_enter Tryz.func82,Tryz.ntmps82;go_wp2_with fail;go_ret;exact⟨by simp,Ag _ _⟩
 ·rw[decide_eq_false (show ¬ Lg.Hi ⟨L,left,down⟩ a from fun h=>b h.1)]
  go_enter Tryz.func82,Tryz.ntmps82;go_wp2_with fail;go_ret;exact⟨by simp,Ag _ _⟩
theorem iU (d:Lg.Dk)(A:Option Addr)(c:Nat)(a:Int)(w:World)(h:Dv w d A c):
 Cr 39 #[Dj d A c,a] w (.tuple #[.string (Lg.Fy d a).1,.int .i64 (Lg.Fy d a).2]):=by
 have j:=Hq (fun W=>xN d A c a W);have q:=Hq h.secs;clear h;unfold Lg.Fy
 cases l:d.down with
 |true=>
  obtain⟨L,left,down⟩:=d;simp only at l;subst l;rw[if_pos rfl];dsimp only[Dj];go_enter Tryz.func39,Tryz.ntmps39;go_wp2_with fail;go_ret2;exact⟨rfl,Ag _ _⟩
 |false=>
  rw[if_neg (by simp)]
  by_cases i:Lg.Hi d a
  ·rw[if_pos i]
   rw[decide_eq_true i]at j;obtain⟨L,left,down⟩:=d;simp only at l;subst l;unfold Lg.Hi at i;unfold Lg.Qb;dsimp only[Dj]at i j q ⊢;obtain⟨r,y⟩:=i;obtain⟨k,rfl⟩:=Int.eq_ofNat_of_zero_le r;have s:k<L.length:=(by omega);obtain⟨b,off,rfl,z,n,g⟩:=Cv bZ q.out s;have m:=g 0 _ rfl;simp only[Nat.mul_one,Nat.add_zero]at m;rw[Int.toNat_natCast,List.getElem?_eq_getElem s,Option.getD_some];generalize L[k]=x at m ⊢;have u:=Hq m;clear m g r;go_enter Tryz.func39,Tryz.ntmps39
   go_upto_region 5 with(go_at_call 82;(with_reducible refine(j.out _).mono ?_);rintro e t ⟨rfl,f⟩;have v:=Aa (Cn f))
   have B:t.cell? ⟨b,off+k,none⟩=some (.string x):=(Af (Ag w _) f).cell (p:=⟨b,off+k,none⟩) n|>.trans u.out
   have o:=Hq (Af (Ag w _) f);clear f;go_wp2_with fail;go_ret2;exact⟨rfl,o.out⟩
  ·rw[if_neg i]
   rw[decide_eq_false i]at j;clear i;obtain⟨L,left,down⟩:=d;simp only at l;subst l;dsimp only[Dj]at j ⊢;go_enter Tryz.func39,Tryz.ntmps39
   go_wp2_with(go_at_call 82;(with_reducible refine(j.out _).mono ?_);rintro e t ⟨rfl,f⟩)
   go_ret2;exact⟨rfl,Af (Ag _ _) f⟩
theorem xO (l:List UInt8)(x:ByteArray)(h:l.length+x.size≤1000000)(W:World):(Op.stringOp .add (Rc.mk l) x).run Tryz.prog W= .ok (.string (Rc.mk (l++x.data.toList))) W:=by
 have a:=Eg l x.data.toList (by have:x.data.toList.length=x.size:=(by simp);omega) W;have b:Rc.mk x.data.toList=x:=rfl;rw[b]at a;exact a
theorem iV (f n e s:Int)(t:ByteArray)(a:0≤s)(g:s≤1000000000)(w:World):
 Cr 60 #[.agg #[f,n,e,s,t]] w (.int .i64 (s/128)):=by
 have d:s.tdiv 128=s/128:=Int.tdiv_eq_ediv_of_nonneg a;have b:IntKind.i64.wrap (s/128)=s/128:=IntWalk.i64_in _ (by omega);have c:IntKind.i64.wrap (s.tdiv 128)=s/128:=by rw[d];exact b
 go_enter Tryz.func60,Tryz.ntmps60;go_wp2_with fail;go_ret;exact⟨by simp,Ag _ _⟩
def Lg.Abn (d:Lg.Dk):Prop:=(∀ x∈d.Ad,x.size=128)∧1≤(d.Ad.length:Int)∧(d.Ad.length:Int)≤65536∧-1≤d.left∧(d.down=true→d.left=0)
instance (d:Lg.Dk):Decidable (Lg.Abn d):=by unfold Lg.Abn;exact inferInstance
theorem Zq (d:Lg.Dk)(hw:∀ b∈d.Ad,b.size≤1000)(A:Option Addr)(c:Nat)(f:Int)(a:Nat)(n:Int)(Z: -9223372036854775808≤f+(a:Int))(a1:f+(a:Int)≤9223372036854775807)(ha:a≤1000)(hn:n≤1000)(w:World)(h:Dv w d A c):
 Cq 58 #[Dj d A c,f,.int .i64 (a:Int),n] w (Yw (Lg.Fh d (f+(a:Int)) (n-(a:Int)).toNat) w):=by
 have HR:=Hq (fun a W (hb:Bw w W)=>iU d A c a W (h.below hb));have a6:=h.small;obtain⟨N,hN⟩:=ex ((n-(a:Int)).toNat);rw[← hN];have z:(N:Int)=max (n-(a:Int)) 0:=by omega
 have ae:N≤1000:=by omega
 obtain⟨q,X⟩:=ex (f+(a:Int));rw[← X]at Z a1;rw[← X];have HF:=Hq (fun r (hr:Lg.Fh d q N=r) w' (hb:Bw w w')=>show Yw (Lg.Fh d q N) w (.returned (vA r)) w' from⟨hb,by rw[hr]⟩);have HA:=Hq (Lg.Acc.zero d q N);have HW:=Hq hw;generalize Yw (Lg.Fh d q N) w=Q at HF ⊢;have HS:=Hq (show(d.Ad.length:Int)≤1000000 by omega);have L:=Hq z;have a7:=Hq X;clear h hN hw a6 z X;dsimp only[Dj]at HR ⊢;go_enter Tryz.func58,Tryz.ntmps58;go_upto_region 1 with fail;have Y:=yB w #[.slice A d.Ad.length c,d.left,d.down] 28;obtain⟨W0,M⟩:=Gz Y;rw[← M]at Y ⊢;clear M;go_wp2_with fail
 go_loopw [10,11] (fun s i wr=>∃ (k:Nat) (l:List UInt8),s= .string (Rc.mk l)∧i= .int .i64 ((a:Int)+(k:Int))∧Lg.Acc d q N k l∧l.length≤k*1000∧(0<k→0≤q∧q+(k:Int)≤1000000)∧Fc w.heap.size w [(#[.slice A d.Ad.length c,d.left,d.down],28)] wr) (fun _ i _=>N-(intOf i-(a:Int)).toNat)
 case atStart=>exact⟨0,[],rfl,by simp,HA.out,Nat.le_refl _,fun h=>absurd h (by omega),Y.out⟩
 case round=>
  obtain⟨k,l,rfl,rfl,p,af,O,P⟩:=hrel;have u:=Hq p;have K:=Hq P;have v:=Hq O;have ag:=p.le;clear p P O Y HA
  by_cases R:k<N
  ·have o:(a:Int)+(k:Int)<n:=by have:=L.out;omega
   have ah:IntKind.i64.wrap (f+((a:Int)+(k:Int)))=q+(k:Int):=by
    have e:f+((a:Int)+(k:Int))=q+(k:Int):=(by have:=a7.out;omega);rw[e];refine IntWalk.i64_in _ ?_;rcases Nat.eq_zero_or_pos k with D|D
    ·subst D;simp;omega
    ·have:=v.out D;omega
   have y:=HR.out (q+(k:Int)) wr K.out.below;have g:=Hq (fun h=>u.out.fault R h);have j:=Hq (fun h=>u.out.next R h);have m:=Hq (@Lg.cE d (q+(k:Int)));have E:=Hq (@Lg.fP d (q+(k:Int)) HW.out);generalize Lg.Fy d (q+(k:Int))=rd at y g j m;obtain⟨x,e⟩:=rd;simp only at y g j m;have S:=Hq y;clear y u
   by_cases T:e=0
   ·subst T
    have F:=Hq (j.out rfl);have o:=m.out rfl;have ai:x.size≤1000:=(by rw[o.2];exact E.out);have B:0≤q∧q+((k+1:Nat):Int)≤1000000:=by
     have h1:=o.1.1;have h2:=o.1.2;have h3:=HS.out;refine⟨?_,by omega⟩;rcases Nat.eq_zero_or_pos k with D|D
     ·subst D;simpa using h1
     ·exact(v.out D).1
    have U:=Hq B;have V:(l++x.data.toList).length≤(k+1)*1000:=(by rw[List.length_append];simp;omega);have a8:=Hq V;have C:=xO l x (by omega);obtain⟨S2,G⟩:=ex (Rc.mk (l++x.data.toList));rw[← G]at C;have aa:=Hq G;obtain⟨S1,H⟩:=ex (Rc.mk l);rw[← H]at C;rw[← H];have aj:IntKind.i64.wrap ((a:Int)+(k:Int)+1)=(a:Int)+(k:Int)+1:=IntWalk.i64_in _ (by omega);clear o B V j g m E v H G
    go_wp2_with(first
     |with_reducible refine lL K.out.Am Ej ?_
     |(go_at_call 39;(with_reducible refine S.out.mono ?_);rintro e w1 ⟨rfl,t⟩;have I:=Hq (K.out.step t);clear t))
    go_roundw
    case rel=>exact⟨k+1,l++x.data.toList,by rw[← aa.out],by go_num,F.out,a8.out,fun _=>U.out,I.out⟩
    case measure=>simp[intOf];omega
   ·have J:=Hq (g.out T)
    have ak:(e==0)=false:=(by simpa using T);have an:(e != 0)=true:=(by simpa using T);clear T j g m E v
    go_wp2_with(first
     |with_reducible refine lL K.out.Am Ej ?_
     |(go_at_call 39;(with_reducible refine S.out.mono ?_);rintro e w1 ⟨rfl,t⟩;have I:=Hq (K.out.step t);clear t))
    exact HF.out _ J.out _ I.out.below
  ·obtain rfl:k=N:=by omega
   have o:¬ (a:Int)+(k:Int)<n:=(by have:=L.out;omega);have ad:=Hq u.out.done;go_wp2_with fail;exact HF.out _ ad.out _ K.out.below
end Go.Proofs.YtdfkambdagoojaaGreatDoor
namespace Lg
theorem eB {s:List UInt8}{a:Nat}(h:¬ Rc.Bz (Rc.Cd false (Bk s a))):Jz s a=none:=Mu fun b=>h (Rc.Rh _|>.1 b.2.2).1
theorem eC {s:List UInt8}{a:Nat}(h:Rc.Bl (Rc.Cd false (Bk s a))≠Bk s a):Jz s a=none:=Mu fun b=>h (Rc.Rh _|>.1 b.2.2).2
theorem oY {s:List UInt8}{a:Nat}(c:a+8+Oct.Bq s a 4≤s.length)(d:Oct.Bq s (a+4) 4=Oct.Fg (Bk s a))(f:Rc.Bz (Rc.Cd false (Bk s a)))(g:Rc.Bl (Rc.Cd false (Bk s a))=Bk s a):
 Jz s a=some (Rc.Cd false (Bk s a),a+8+Oct.Bq s a 4):=by
 have b:=(Rc.Rh _).2 ⟨f,g⟩;rw[Qa ⟨c,d,b.1,b.2⟩];have e:=Rc.Iz false b.1;rw[b.2]at e;rw[e]
end Lg
namespace Go.Proofs.YtdfkambdagoojaaGreatDoor
open Go.RowKit
theorem Fv (s:ByteArray)(a n:Nat)(d:s.size≤1000000)(b:a+4≤s.size)(c:Oct.Bq s.data.toList a 4=n)(W:World):
 Cq 100 #[s,.int .i64 (a:Int),.int .i64 4] W fun e w'=>e= .returned (.tuple #[.int .i64 (n:Int),true])∧W=w':=by
 have h:=Nb s a 4 (by omega) (by omega) b (by omega) W;have f:=Mv s.data.toList a 4;rw[show Oct.intOf (Oct.Bq s.data.toList a 4)=(n:Int) by rw[← c];unfold Oct.intOf;rw[if_pos (by have:(256:Nat)^4=4294967296:=rfl;omega)]]at h;exact h
theorem Vw (s:ByteArray)(a:Nat)(b:s.size≤1000000)(c:a≤2000000)(d:s.size<a+4)(W:World):
 Cq 100 #[s,.int .i64 (a:Int),.int .i64 4] W fun e w'=>e= .returned (.tuple #[(),false])∧W=w':=
 Zn s a 4 (by omega) (by omega) (by omega) (by omega) (by omega) W
theorem Vx (s:ByteArray)(a:Int)(c:a<0∨(s.size:Int)<a)(o:Option (Rc.Rec×Nat))(d:o=none)(w:World):
 Cq 59 #[s,a] w (Kq o w):=by
 have e:=Hq d;clear d;have b:=Hq (heap_alloc_new w (.cells (Bt 0 0 0 0 0 0 0 0 0 ⟨#[]⟩ ⟨#[]⟩ 0 0 ⟨#[]⟩ 0 0 (.slice none 0 0) (.slice none 0 0)) 47));rcases c with c|c
 ·go_enter Tryz.func59,Tryz.ntmps59
  go_wp2_with(with_reducible refine lS (Bt 0 0 0 0 0 0 0 0 0 ⟨#[]⟩ ⟨#[]⟩ 0 0 ⟨#[]⟩ 0 0 (.slice none 0 0) (.slice none 0 0)) b.out ?_)
  refine rT3 () (.int .i64 1) b.out Ca ?_;exact get_none e.out (Gv (Ag _ _) _) 1 (by omega)
 ·have f:¬ a<0:=by omega
  go_enter Tryz.func59,Tryz.ntmps59
  go_wp2_with(with_reducible refine lS (Bt 0 0 0 0 0 0 0 0 0 ⟨#[]⟩ ⟨#[]⟩ 0 0 ⟨#[]⟩ 0 0 (.slice none 0 0) (.slice none 0 0)) b.out ?_)
  refine rT3 () (.int .i64 1) b.out Ca ?_;exact get_none e.out (Gv (Ag _ _) _) 1 (by omega)
theorem Wb (s:ByteArray)(a:Nat)(f:s.size≤1000000)(m:a≤s.size)(j:s.size<a+4)(o:Option (Rc.Rec×Nat))(g:o=none)(w:World):
 Cq 59 #[s,.int .i64 (a:Int)] w (Kq o w):=by
 have k:=Hq g;have n:¬ (a:Int)<0:=by omega
 have p:¬ (s.size:Int)<(a:Int):=by omega
 obtain⟨b,h⟩:=ex (a+4:Nat);have q:IntKind.i64.wrap ((a:Int)+4)=(b:Int):=by rw[h,Int.natCast_add];exact IntWalk.i64_in _ (by omega)
 have c:=Hq (fun W=>Vw s a f (by omega) j W);have d:=Hq (fun W=>Vw s b f (by omega) (by omega) W);have i:=Hq (heap_alloc_new w (.cells (Bt 0 0 0 0 0 0 0 0 0 ⟨#[]⟩ ⟨#[]⟩ 0 0 ⟨#[]⟩ 0 0 (.slice none 0 0) (.slice none 0 0)) 47));clear g h;go_enter Tryz.func59,Tryz.ntmps59
 go_wp2_with(first
  |(go_at_call 100;(with_reducible refine(c.out _).mono ?_);rintro e l ⟨rfl,rfl⟩)
  |(go_at_call 100;(with_reducible refine(d.out _).mono ?_);rintro e l ⟨rfl,rfl⟩)
  |with_reducible refine lS (Bt 0 0 0 0 0 0 0 0 0 ⟨#[]⟩ ⟨#[]⟩ 0 0 ⟨#[]⟩ 0 0 (.slice none 0 0) (.slice none 0 0)) i.out ?_)
 refine rT3 () (.int .i64 3) i.out Ca ?_;exact get_none k.out (Gv (Ag _ _) _) 3 (by omega)
theorem Wc (s:ByteArray)(a:Nat)(f:s.size≤1000000)(_ha:a≤s.size)(n:Nat)(k:a+4≤s.size)(g:Oct.Bq s.data.toList a 4=n)(p:s.size<a+8)(o:Option (Rc.Rec×Nat))(h:o=none)(w:World):
 Cq 59 #[s,.int .i64 (a:Int)] w (Kq o w):=by
 have l:=Hq h;have q:¬ (a:Int)<0:=by omega
 have r:¬ (s.size:Int)<(a:Int):=by omega
 obtain⟨b,i⟩:=ex (a+4:Nat);have t:IntKind.i64.wrap ((a:Int)+4)=(b:Int):=by rw[i,Int.natCast_add];exact IntWalk.i64_in _ (by omega)
 have c:=Hq (fun W=>Fv s a n f k g W);have d:=Hq (fun W=>Vw s b f (by omega) (by omega) W);clear g;have j:=Hq (heap_alloc_new w (.cells (Bt 0 0 0 0 0 0 0 0 0 ⟨#[]⟩ ⟨#[]⟩ 0 0 ⟨#[]⟩ 0 0 (.slice none 0 0) (.slice none 0 0)) 47));clear h i;go_enter Tryz.func59,Tryz.ntmps59
 go_wp2_with(first
  |(go_at_call 100;(with_reducible refine(c.out _).mono ?_);rintro e m ⟨rfl,rfl⟩)
  |(go_at_call 100;(with_reducible refine(d.out _).mono ?_);rintro e m ⟨rfl,rfl⟩)
  |with_reducible refine lS (Bt 0 0 0 0 0 0 0 0 0 ⟨#[]⟩ ⟨#[]⟩ 0 0 ⟨#[]⟩ 0 0 (.slice none 0 0) (.slice none 0 0)) j.out ?_)
 refine rT3 () (.int .i64 3) j.out Ca ?_;exact get_none l.out (Gv (Ag _ _) _) 3 (by omega)
theorem Wd (s:ByteArray)(a:Nat)(f:s.size≤1000000)(_ha:a≤s.size)(n:Nat)(q:a+8≤s.size)(g:Oct.Bq s.data.toList a 4=n)(r:s.size<a+8+n)(o:Option (Rc.Rec×Nat))(h:o=none)(w:World):
 Cq 59 #[s,.int .i64 (a:Int)] w (Kq o w):=by
 have k:=Hq h;have t:¬ (a:Int)<0:=by omega
 have u:¬ (s.size:Int)<(a:Int):=by omega
 obtain⟨b,i⟩:=ex (a+4:Nat);have v:IntKind.i64.wrap ((a:Int)+4)=(b:Int):=by rw[i,Int.natCast_add];exact IntWalk.i64_in _ (by omega)
 have c:=Hq (fun W=>Fv s a n f (by omega) g W);have d:=Hq (fun W=>Fv s b _ f (by omega) rfl W);have l:IntKind.i64.wrap ((s.size:Int)-(a:Int))=(s.size:Int)-(a:Int):=IntWalk.i64_in _ (by omega);have m:IntKind.i64.wrap ((s.size:Int)-(a:Int)-8)=(s.size:Int)-(a:Int)-8:=IntWalk.i64_in _ (by omega);have x:(s.size:Int)-(a:Int)-8<(n:Int):=by omega
 clear g;have j:=Hq (heap_alloc_new w (.cells (Bt 0 0 0 0 0 0 0 0 0 ⟨#[]⟩ ⟨#[]⟩ 0 0 ⟨#[]⟩ 0 0 (.slice none 0 0) (.slice none 0 0)) 47));clear h i;go_enter Tryz.func59,Tryz.ntmps59
 go_wp2_with(first
  |(go_at_call 100;(with_reducible refine(c.out _).mono ?_);rintro e p ⟨rfl,rfl⟩)
  |(go_at_call 100;(with_reducible refine(d.out _).mono ?_);rintro e p ⟨rfl,rfl⟩)
  |with_reducible refine lS (Bt 0 0 0 0 0 0 0 0 0 ⟨#[]⟩ ⟨#[]⟩ 0 0 ⟨#[]⟩ 0 0 (.slice none 0 0) (.slice none 0 0)) j.out ?_)
 refine rT3 () (.int .i64 3) j.out Ca ?_;exact get_none k.out (Gv (Ag _ _) _) 3 (by omega)
theorem iW (s:ByteArray)(a n q:Nat)(u:s.size≤1000000)(k:Oct.Bq s.data.toList a 4=n)(l:Oct.Bq s.data.toList (a+4) 4=q)(J:a+8+n≤s.size)(v:q≠Oct.Fg (Lg.Bk s.data.toList a))(w:World):
 Cq 59 #[s,.int .i64 (a:Int)] w (Kq (Lg.Jz s.data.toList a) w):=by
 have A:=Hq (Lg.rE (s:=s.data.toList) (a:=a) (by rw[l];exact v));have K:¬ (a:Int)<0:=by omega
 have L:¬ (s.size:Int)<(a:Int):=by omega
 obtain⟨b,m⟩:=ex (a+4:Nat);have M:IntKind.i64.wrap ((a:Int)+4)=(b:Int):=by rw[m,Int.natCast_add];exact IntWalk.i64_in _ (by omega)
 have o:=Hq (fun W=>Fv s a n u (by omega) k W);have p:=Hq (fun W=>Fv s b q u (by omega) (by rw[m];exact l) W);have B:IntKind.i64.wrap ((s.size:Int)-(a:Int))=(s.size:Int)-(a:Int):=IntWalk.i64_in _ (by omega);have C:IntKind.i64.wrap ((s.size:Int)-(a:Int)-8)=(s.size:Int)-(a:Int)-8:=IntWalk.i64_in _ (by omega);have N:¬ (s.size:Int)-(a:Int)-8<(n:Int):=by omega
 obtain⟨g,c⟩:=ex (a+8:Nat);have D:IntKind.i64.wrap ((a:Int)+8)=(g:Int):=by rw[c,Int.natCast_add];exact IntWalk.i64_in _ (by omega)
 obtain⟨cn,f⟩:=ex (a+8+n:Nat);have E:IntKind.i64.wrap ((g:Int)+(n:Int))=(cn:Int):=by rw[f,c,← Int.natCast_add];exact IntWalk.i64_in _ (by omega)
 have O:g≤cn:=by omega
 have P:cn≤s.size:=by omega
 have F:(g:Int)≤(cn:Int):=by omega
 have G:(cn:Int)≤(s.size:Int):=by omega
 obtain⟨y,j⟩:=ex (s.extract g cn);have d:y.data.toList=Lg.Bk s.data.toList a:=by
  rw[j,f,c,J2];unfold Lg.Bk;rw[k]
 have r:y.size=n:=by rw[j,ByteArray.size_extract];omega
 have h:=Hq (fun W=>Nc y (by omega) W);rw[d]at h;have i:=Hq (fun W=>On y (by omega) W);rw[d]at i;have t:=Hq d;have x:=Hq (heap_alloc_new w (.cells (Bt 0 0 0 0 0 0 0 0 0 ⟨#[]⟩ ⟨#[]⟩ 0 0 ⟨#[]⟩ 0 0 (.slice none 0 0) (.slice none 0 0)) 47));generalize Oct.Fg (Lg.Bk s.data.toList a)=S at*;have H:((S:Int)==(q:Int))=false:=by simp only[beq_eq_false_iff_ne,ne_eq];omega
 have I:((S:Int) != (q:Int))=true:=by simp only[bne_iff_ne,ne_eq];omega
 clear m c f d r k l i t v;go_enter Tryz.func59,Tryz.ntmps59
 go_upto_region 8 with(first
  |(go_at_call 100;(with_reducible refine(o.out _).mono ?_);rintro e z ⟨rfl,rfl⟩)
  |(go_at_call 100;(with_reducible refine(p.out _).mono ?_);rintro e z ⟨rfl,rfl⟩))
 rw[← j];clear j
 go_wp2_with(first
  |(go_at_call 84;(with_reducible refine(h.out _).mono ?_);rintro e z ⟨rfl,rfl⟩)
  |with_reducible refine lS (Bt 0 0 0 0 0 0 0 0 0 ⟨#[]⟩ ⟨#[]⟩ 0 0 ⟨#[]⟩ 0 0 (.slice none 0 0) (.slice none 0 0)) x.out ?_)
 refine rT3 () (.int .i64 19) x.out Ca ?_;exact get_none A.out (Gv (Ag _ _) _) 19 (by omega)
theorem Zr (s:ByteArray)(a n q:Nat)(X:s.size≤1000000)(L:Oct.Bq s.data.toList a 4=n)(Y:Oct.Bq s.data.toList (a+4) 4=q)(hx:a+8+n≤s.size)(hs:q=Oct.Fg (Lg.Bk s.data.toList a))(J:Rc.Et (Rc.Cd false (Lg.Bk s.data.toList a))=false)(w:World):
 Cq 59 #[s,.int .i64 (a:Int)] w (Kq (Lg.Jz s.data.toList a) w):=by
 have HN:=Hq (Lg.eB (s:=s.data.toList) (a:=a) (fun h=>by rw[Rc.I0 h]at J;cases J));have h1:¬ (a:Int)<0:=by omega
 have h2:¬ (s.size:Int)<(a:Int):=by omega
 obtain⟨b,N⟩:=ex (a+4:Nat);have hw:IntKind.i64.wrap ((a:Int)+4)=(b:Int):=by rw[N,Int.natCast_add];exact IntWalk.i64_in _ (by omega)
 have O:=Hq (fun W=>Fv s a n X (by omega) L W);have P:=Hq (fun W=>Fv s b q X (by omega) (by rw[N];exact Y) W);have a1:IntKind.i64.wrap ((s.size:Int)-(a:Int))=(s.size:Int)-(a:Int):=IntWalk.i64_in _ (by omega);have a6:IntKind.i64.wrap ((s.size:Int)-(a:Int)-8)=(s.size:Int)-(a:Int)-8:=IntWalk.i64_in _ (by omega);have h3:¬ (s.size:Int)-(a:Int)-8<(n:Int):=by omega
 obtain⟨z,k⟩:=ex (a+8:Nat);have a7:IntKind.i64.wrap ((a:Int)+8)=(z:Int):=by rw[k,Int.natCast_add];exact IntWalk.i64_in _ (by omega)
 obtain⟨cn,m⟩:=ex (a+8+n:Nat);have i:IntKind.i64.wrap ((z:Int)+(n:Int))=(cn:Int):=by rw[m,k,← Int.natCast_add];exact IntWalk.i64_in _ (by omega)
 have h5:z≤cn:=by omega
 have h6:cn≤s.size:=by omega
 have a8:(z:Int)≤(cn:Int):=by omega
 have aa:(cn:Int)≤(s.size:Int):=by omega
 obtain⟨y,K⟩:=ex (s.extract z cn);have l:y.data.toList=Lg.Bk s.data.toList a:=by
  rw[K,m,k,J2];unfold Lg.Bk;rw[L]
 have Q:y.size=n:=by rw[K,ByteArray.size_extract];omega
 have C:=Hq (fun W=>Nc y (by omega) W);rw[l]at C;have D:=Hq (fun W=>On y (by omega) W);rw[l]at D;have R:=Hq l;have T:=Hq (heap_alloc_new w (.cells (Bt 0 0 0 0 0 0 0 0 0 ⟨#[]⟩ ⟨#[]⟩ 0 0 ⟨#[]⟩ 0 0 (.slice none 0 0) (.slice none 0 0)) 47));have o:=Hq (fun A B c d W (h:Hc W (Rc.Cd false (Lg.Bk s.data.toList a)) A c B d)=>Kw _ A B c d W h);rw[J]at o;clear J m;generalize Lg.Bk s.data.toList a=M at*;generalize Oct.Fg M=S at*;generalize Rc.Cd false M=r at*;subst hs;have ad:((q:Int)==(q:Int))=true:=by simp
 have ae:((q:Int) != (q:Int))=false:=by simp
 clear N k l Q L Y R;dsimp only[Dp,Ec]at o;go_enter Tryz.func59,Tryz.ntmps59
 go_upto_region 8 with(first
  |(go_at_call 100;(with_reducible refine(O.out _).mono ?_);rintro e Z ⟨rfl,rfl⟩)
  |(go_at_call 100;(with_reducible refine(P.out _).mono ?_);rintro e Z ⟨rfl,rfl⟩))
 rw[← K];clear K
 go_upto_region 10 with(go_at_call 84;(with_reducible refine(C.out _).mono ?_);rintro e Z ⟨rfl,rfl⟩)
 obtain⟨W0,j⟩:=ex (w.alloc (.cells (Bt 0 0 0 0 0 0 0 0 0 ⟨#[]⟩ ⟨#[]⟩ 0 0 ⟨#[]⟩ 0 0 (.slice none 0 0) (.slice none 0 0)) 47));have E:=Hq (show Bw w W0 from by rw[j];exact Ag _ _);rw[← j]at T;rw[← j];have af:=Hq (show W0.heap.size=w.heap.size+1 by rw[j];simp);clear j
 go_upto_region 11 with(first
  |(go_at_call 101;(with_reducible refine(D.out _).mono ?_);rintro e x ⟨A,c,B,d,rfl,F,p⟩;(try dsimp only[Dp,Ec]))
  |with_reducible refine sN (Bt r.lsn r.prev r.txn r.kind r.Ab r.next r.num r.op.kind r.op.slot r.op.A5 r.op.new r.how r.root r.e.key r.e.Ab r.e.slot (.slice A r.txns.length c) (.slice B r.dirty.length d)) ?_)
 have t:=Hq (heap_alloc_new x (.cells (Bt r.lsn r.prev r.txn r.kind r.Ab r.next r.num r.op.kind r.op.slot r.op.A5 r.op.new r.how r.root r.e.key r.e.Ab r.e.slot (.slice A r.txns.length c) (.slice B r.dirty.length d)) 47));have u:=Hq (F.below (Ag x (.cells (Bt r.lsn r.prev r.txn r.kind r.Ab r.next r.num r.op.kind r.op.slot r.op.A5 r.op.new r.how r.root r.e.key r.e.Ab r.e.slot (.slice A r.txns.length c) (.slice B r.dirty.length d)) 47)));have v:=Hq u.out.rr;have G:=Hq (Ae (Ae T.out p) (Ag x (.cells (Bt r.lsn r.prev r.txn r.kind r.Ab r.next r.num r.op.kind r.op.slot r.op.A5 r.op.new r.how r.root r.e.key r.e.Ab r.e.slot (.slice A r.txns.length c) (.slice B r.dirty.length d)) 47)));have H:=Hq (Af (Af E.out p) (Ag x (.cells (Bt r.lsn r.prev r.txn r.kind r.Ab r.next r.num r.op.kind r.op.slot r.op.A5 r.op.new r.how r.root r.e.key r.e.Ab r.e.slot (.slice A r.txns.length c) (.slice B r.dirty.length d)) 47)));obtain⟨g,U⟩:=ex x.heap.size;obtain⟨w4,i⟩:=ex (x.alloc (.cells (Bt r.lsn r.prev r.txn r.kind r.Ab r.next r.num r.op.kind r.op.slot r.op.A5 r.op.new r.how r.root r.e.key r.e.Ab r.e.slot (.slice A r.txns.length c) (.slice B r.dirty.length d)) 47));rw[← U,← i]at t;rw[← i]at u v G H;rw[← U,← i];clear U i F p T E
 go_wp2_with(first
  |with_reducible refine lL t.out Ca ?_
  |(go_at_call 102;(with_reducible refine(o.out _ _ _ _ _ v.out).mono ?_);rintro e w5 ⟨rfl,f⟩;have ag:=Hq (Ae t.out f);have ah:=Hq (v.out.below f);have I:=Hq (Ae G.out f);have V:=Hq (Af H.out f);have ai:=Hq (u.out.below f);clear f)
  |with_reducible refine lS (Bt 0 0 0 0 0 0 0 0 0 ⟨#[]⟩ ⟨#[]⟩ 0 0 ⟨#[]⟩ 0 0 (.slice none 0 0) (.slice none 0 0)) I.out ?_)
 refine rT3 () (.int .i64 2) I.out Ca ?_;exact get_none HN.out (Gv V.out _) 2 (by omega)
theorem Zs (s:ByteArray)(a n q:Nat)(hm:s.size≤1000000)(R:Oct.Bq s.data.toList a 4=n)(hq:Oct.Bq s.data.toList (a+4) 4=q)(hx:a+8+n≤s.size)(hs:q=Oct.Fg (Lg.Bk s.data.toList a))(T:Rc.Et (Rc.Cd false (Lg.Bk s.data.toList a))=true)(U:Rc.Bl (Rc.Cd false (Lg.Bk s.data.toList a))≠Lg.Bk s.data.toList a)(w:World):
 Cq 59 #[s,.int .i64 (a:Int)] w (Kq (Lg.Jz s.data.toList a) w):=by
 have HN:=Hq (Lg.eC (s:=s.data.toList) (a:=a) U);have h1:¬ (a:Int)<0:=by omega
 have h2:¬ (s.size:Int)<(a:Int):=by omega
 obtain⟨b,V⟩:=ex (a+4:Nat);have hw:IntKind.i64.wrap ((a:Int)+4)=(b:Int):=by rw[V,Int.natCast_add];exact IntWalk.i64_in _ (by omega)
 have X:=Hq (fun W=>Fv s a n hm (by omega) R W);have Y:=Hq (fun W=>Fv s b q hm (by omega) (by rw[V];exact hq) W);have ag:IntKind.i64.wrap ((s.size:Int)-(a:Int))=(s.size:Int)-(a:Int):=IntWalk.i64_in _ (by omega);have ah:IntKind.i64.wrap ((s.size:Int)-(a:Int)-8)=(s.size:Int)-(a:Int)-8:=IntWalk.i64_in _ (by omega);have h3:¬ (s.size:Int)-(a:Int)-8<(n:Int):=by omega
 obtain⟨E,m⟩:=ex (a+8:Nat);have ai:IntKind.i64.wrap ((a:Int)+8)=(E:Int):=by rw[m,Int.natCast_add];exact IntWalk.i64_in _ (by omega)
 obtain⟨cn,o⟩:=ex (a+8+n:Nat);have i:IntKind.i64.wrap ((E:Int)+(n:Int))=(cn:Int):=by rw[o,m,← Int.natCast_add];exact IntWalk.i64_in _ (by omega)
 have h5:E≤cn:=by omega
 have h6:cn≤s.size:=by omega
 have aj:(E:Int)≤(cn:Int):=by omega
 have ak:(cn:Int)≤(s.size:Int):=by omega
 obtain⟨y,Q⟩:=ex (s.extract E cn);have j:y.data.toList=Lg.Bk s.data.toList a:=by
  rw[Q,o,m,J2];unfold Lg.Bk;rw[R]
 have Z:y.size=n:=by rw[Q,ByteArray.size_extract];omega
 have F:=Hq (fun W=>Nc y (by omega) W);rw[j]at F;have G:=Hq (fun W=>On y (by omega) W);rw[j]at G;have a1:=Hq j;have HZ:=Hq (heap_alloc_new w (.cells (Bt 0 0 0 0 0 0 0 0 0 ⟨#[]⟩ ⟨#[]⟩ 0 0 ⟨#[]⟩ 0 0 (.slice none 0 0) (.slice none 0 0)) 47));have p:=Hq (fun A B c d W (h:Hc W (Rc.Cd false (Lg.Bk s.data.toList a)) A c B d)=>Kw _ A B c d W h);have t:=Hq (fun A B c d W (h:Hc W (Rc.Cd false (Lg.Bk s.data.toList a)) A c B d)=>Rv _ (Rc.Kn.1 T) A B c d W h);rw[T]at p;obtain⟨yb,u⟩:=ex (Rc.mk (Rc.Bl (Rc.Cd false (Lg.Bk s.data.toList a))):ByteArray);have H:yb≠y:=fun e=>U (by
  have h:=congrArg (fun b:ByteArray=>b.data.toList) (u.symm.trans e);simp only[j,Rc.Om]at h;exact h)
 rw[← u]at t;have I:=uZ H;have ae:(yb.toList==y.toList)=false:=by simpa using I
 have af:¬ yb.toList=y.toList:=by simpa using I
 clear T U u H o;generalize Lg.Bk s.data.toList a=M at*;generalize Oct.Fg M=S at*;generalize Rc.Cd false M=r at*;subst hs;have an:((q:Int)==(q:Int))=true:=by simp
 have ao:((q:Int) != (q:Int))=false:=by simp
 clear V m j Z R hq a1;dsimp only[Dp,Ec]at p t;go_enter Tryz.func59,Tryz.ntmps59
 go_upto_region 8 with(first
  |(go_at_call 100;(with_reducible refine(X.out _).mono ?_);rintro e w1 ⟨rfl,rfl⟩)
  |(go_at_call 100;(with_reducible refine(Y.out _).mono ?_);rintro e w1 ⟨rfl,rfl⟩))
 rw[← Q];clear Q
 go_upto_region 10 with(go_at_call 84;(with_reducible refine(F.out _).mono ?_);rintro e w1 ⟨rfl,rfl⟩)
 obtain⟨W0,k⟩:=ex (w.alloc (.cells (Bt 0 0 0 0 0 0 0 0 0 ⟨#[]⟩ ⟨#[]⟩ 0 0 ⟨#[]⟩ 0 0 (.slice none 0 0) (.slice none 0 0)) 47));have J:=Hq (show Bw w W0 from by rw[k];exact Ag _ _);rw[← k]at HZ;rw[← k];have aq:=Hq (show W0.heap.size=w.heap.size+1 by rw[k];simp);clear k
 go_upto_region 11 with(first
  |(go_at_call 101;(with_reducible refine(G.out _).mono ?_);rintro e D ⟨A,c,B,d,rfl,K,v⟩;(try dsimp only[Dp,Ec]))
  |with_reducible refine sN (Bt r.lsn r.prev r.txn r.kind r.Ab r.next r.num r.op.kind r.op.slot r.op.A5 r.op.new r.how r.root r.e.key r.e.Ab r.e.slot (.slice A r.txns.length c) (.slice B r.dirty.length d)) ?_)
 have x:=Hq (heap_alloc_new D (.cells (Bt r.lsn r.prev r.txn r.kind r.Ab r.next r.num r.op.kind r.op.slot r.op.A5 r.op.new r.how r.root r.e.key r.e.Ab r.e.slot (.slice A r.txns.length c) (.slice B r.dirty.length d)) 47));have z:=Hq (K.below (Ag D (.cells (Bt r.lsn r.prev r.txn r.kind r.Ab r.next r.num r.op.kind r.op.slot r.op.A5 r.op.new r.how r.root r.e.key r.e.Ab r.e.slot (.slice A r.txns.length c) (.slice B r.dirty.length d)) 47)));have C:=Hq z.out.rr;have L:=Hq (Ae (Ae HZ.out v) (Ag D (.cells (Bt r.lsn r.prev r.txn r.kind r.Ab r.next r.num r.op.kind r.op.slot r.op.A5 r.op.new r.how r.root r.e.key r.e.Ab r.e.slot (.slice A r.txns.length c) (.slice B r.dirty.length d)) 47)));have N:=Hq (Af (Af J.out v) (Ag D (.cells (Bt r.lsn r.prev r.txn r.kind r.Ab r.next r.num r.op.kind r.op.slot r.op.A5 r.op.new r.how r.root r.e.key r.e.Ab r.e.slot (.slice A r.txns.length c) (.slice B r.dirty.length d)) 47)));obtain⟨g,hg⟩:=ex D.heap.size;obtain⟨w4,i⟩:=ex (D.alloc (.cells (Bt r.lsn r.prev r.txn r.kind r.Ab r.next r.num r.op.kind r.op.slot r.op.A5 r.op.new r.how r.root r.e.key r.e.Ab r.e.slot (.slice A r.txns.length c) (.slice B r.dirty.length d)) 47));rw[← hg,← i]at x;rw[← i]at z C L N;rw[← hg,← i];clear hg i K v HZ J
 go_wp2_with(first
  |with_reducible refine lL x.out Ca ?_
  |(go_at_call 102;(with_reducible refine(p.out _ _ _ _ _ C.out).mono ?_);rintro e w5 ⟨rfl,f⟩;have O:=Hq (Ae x.out f);have a6:=Hq (C.out.below f);have a7:=Hq (Ae L.out f);have a8:=Hq (Af N.out f);have aa:=Hq (z.out.below f);clear f)
  |with_reducible refine lL O.out Ca ?_
  |(go_at_call 103;(with_reducible refine(t.out _ _ _ _ _ a6.out).mono ?_);rintro e w6 ⟨rfl,l⟩;have ar:=Hq (Ae O.out l);have P:=Hq (Ae a7.out l);have ad:=Hq (Af a8.out l);have au:=Hq (aa.out.below l);clear l)
  |with_reducible refine lS (Bt 0 0 0 0 0 0 0 0 0 ⟨#[]⟩ ⟨#[]⟩ 0 0 ⟨#[]⟩ 0 0 (.slice none 0 0) (.slice none 0 0)) P.out ?_)
 refine rT3 () (.int .i64 2) P.out Ca ?_;exact get_none HN.out (Gv ad.out _) 2 (by omega)
theorem oZ (s:ByteArray)(a n q:Nat)(hm:s.size≤1000000)(E:Oct.Bq s.data.toList a 4=n)(U:Oct.Bq s.data.toList (a+4) 4=q)(hx:a+8+n≤s.size)(hs:q=Oct.Fg (Lg.Bk s.data.toList a))(R:Rc.Et (Rc.Cd false (Lg.Bk s.data.toList a))=true)(V:Rc.Bl (Rc.Cd false (Lg.Bk s.data.toList a))=Lg.Bk s.data.toList a)(w:World):
 Cq 59 #[s,.int .i64 (a:Int)] w (Kq (Lg.Jz s.data.toList a) w):=by
 have p:=Hq (Lg.oY (s:=s.data.toList) (a:=a) (by rw[E];have:s.data.toList.length=s.size:=(by simp);omega) (by rw[U];exact hs) (Rc.Kn.1 R) V);rw[E]at p;have h1:¬ (a:Int)<0:=by omega
 have h2:¬ (s.size:Int)<(a:Int):=by omega
 obtain⟨b,X⟩:=ex (a+4:Nat);have hw:IntKind.i64.wrap ((a:Int)+4)=(b:Int):=by rw[X,Int.natCast_add];exact IntWalk.i64_in _ (by omega)
 have Y:=Hq (fun W=>Fv s a n hm (by omega) E W);have Z:=Hq (fun W=>Fv s b q hm (by omega) (by rw[X];exact U) W);have aj:IntKind.i64.wrap ((s.size:Int)-(a:Int))=(s.size:Int)-(a:Int):=IntWalk.i64_in _ (by omega);have ak:IntKind.i64.wrap ((s.size:Int)-(a:Int)-8)=(s.size:Int)-(a:Int)-8:=IntWalk.i64_in _ (by omega);have h3:¬ (s.size:Int)-(a:Int)-8<(n:Int):=by omega
 obtain⟨F,m⟩:=ex (a+8:Nat);have an:IntKind.i64.wrap ((a:Int)+8)=(F:Int):=by rw[m,Int.natCast_add];exact IntWalk.i64_in _ (by omega)
 obtain⟨cn,o⟩:=ex (a+8+n:Nat);have i:IntKind.i64.wrap ((F:Int)+(n:Int))=(cn:Int):=by rw[o,m,← Int.natCast_add];exact IntWalk.i64_in _ (by omega)
 have h5:F≤cn:=by omega
 have h6:cn≤s.size:=by omega
 have ao:(F:Int)≤(cn:Int):=by omega
 have aq:(cn:Int)≤(s.size:Int):=by omega
 obtain⟨y,T⟩:=ex (s.extract F cn);have j:y.data.toList=Lg.Bk s.data.toList a:=by
  rw[T,o,m,J2];unfold Lg.Bk;rw[E]
 have a1:y.size=n:=by rw[T,ByteArray.size_extract];omega
 have G:=Hq (fun W=>Nc y (by omega) W);rw[j]at G;have H:=Hq (fun W=>On y (by omega) W);rw[j]at H;have a6:=Hq j;have HZ:=Hq (heap_alloc_new w (.cells (Bt 0 0 0 0 0 0 0 0 0 ⟨#[]⟩ ⟨#[]⟩ 0 0 ⟨#[]⟩ 0 0 (.slice none 0 0) (.slice none 0 0)) 47));have t:=Hq (fun A B c d W (h:Hc W (Rc.Cd false (Lg.Bk s.data.toList a)) A c B d)=>Kw _ A B c d W h);have u:=Hq (fun A B c d W (h:Hc W (Rc.Cd false (Lg.Bk s.data.toList a)) A c B d)=>Rv _ (Rc.Kn.1 R) A B c d W h);rw[R]at t;have I:Rc.mk (Rc.Bl (Rc.Cd false (Lg.Bk s.data.toList a)))=y:=by
  rw[V,← j];rfl
 rw[I]at u;have a7:(y.toList != y.toList)=false:=by simp
 have a8:=Hq o;clear R V I o;generalize Lg.Bk s.data.toList a=M at*;generalize Oct.Fg M=S at*;generalize Rc.Cd false M=r at*;subst hs;have ar:((q:Int)==(q:Int))=true:=by simp
 have au:((q:Int) != (q:Int))=false:=by simp
 clear X m j a1 E U a6;dsimp only[Dp,Ec]at t u;go_enter Tryz.func59,Tryz.ntmps59
 go_upto_region 8 with(first
  |(go_at_call 100;(with_reducible refine(Y.out _).mono ?_);rintro e w1 ⟨rfl,rfl⟩)
  |(go_at_call 100;(with_reducible refine(Z.out _).mono ?_);rintro e w1 ⟨rfl,rfl⟩))
 rw[← T];clear T
 go_upto_region 10 with(go_at_call 84;(with_reducible refine(G.out _).mono ?_);rintro e w1 ⟨rfl,rfl⟩)
 obtain⟨W0,k⟩:=ex (w.alloc (.cells (Bt 0 0 0 0 0 0 0 0 0 ⟨#[]⟩ ⟨#[]⟩ 0 0 ⟨#[]⟩ 0 0 (.slice none 0 0) (.slice none 0 0)) 47));have J:=Hq (show Bw w W0 from by rw[k];exact Ag _ _);rw[← k]at HZ;rw[← k];have K:=Hq (show W0.heap.size=w.heap.size+1 by rw[k];simp);clear k
 go_upto_region 11 with(first
  |(go_at_call 101;(with_reducible refine(H.out _).mono ?_);rintro e D ⟨A,c,B,d,rfl,L,v⟩;(try dsimp only[Dp,Ec]))
  |with_reducible refine sN (Bt r.lsn r.prev r.txn r.kind r.Ab r.next r.num r.op.kind r.op.slot r.op.A5 r.op.new r.how r.root r.e.key r.e.Ab r.e.slot (.slice A r.txns.length c) (.slice B r.dirty.length d)) ?_)
 have x:=Hq (heap_alloc_new D (.cells (Bt r.lsn r.prev r.txn r.kind r.Ab r.next r.num r.op.kind r.op.slot r.op.A5 r.op.new r.how r.root r.e.key r.e.Ab r.e.slot (.slice A r.txns.length c) (.slice B r.dirty.length d)) 47));have z:=Hq (L.below (Ag D (.cells (Bt r.lsn r.prev r.txn r.kind r.Ab r.next r.num r.op.kind r.op.slot r.op.A5 r.op.new r.how r.root r.e.key r.e.Ab r.e.slot (.slice A r.txns.length c) (.slice B r.dirty.length d)) 47)));have C:=Hq z.out.rr;have N:=Hq (Ae (Ae HZ.out v) (Ag D (.cells (Bt r.lsn r.prev r.txn r.kind r.Ab r.next r.num r.op.kind r.op.slot r.op.A5 r.op.new r.how r.root r.e.key r.e.Ab r.e.slot (.slice A r.txns.length c) (.slice B r.dirty.length d)) 47)));have O:=Hq (Af (Af J.out v) (Ag D (.cells (Bt r.lsn r.prev r.txn r.kind r.Ab r.next r.num r.op.kind r.op.slot r.op.A5 r.op.new r.how r.root r.e.key r.e.Ab r.e.slot (.slice A r.txns.length c) (.slice B r.dirty.length d)) 47)));obtain⟨g,hg⟩:=ex D.heap.size;obtain⟨w4,i⟩:=ex (D.alloc (.cells (Bt r.lsn r.prev r.txn r.kind r.Ab r.next r.num r.op.kind r.op.slot r.op.A5 r.op.new r.how r.root r.e.key r.e.Ab r.e.slot (.slice A r.txns.length c) (.slice B r.dirty.length d)) 47));rw[← hg,← i]at x;rw[← i]at z C N O;rw[← hg,← i];clear hg i L v HZ J
 go_wp2_with(first
  |with_reducible refine lL x.out Ca ?_
  |(go_at_call 102;(with_reducible refine(t.out _ _ _ _ _ C.out).mono ?_);rintro e w5 ⟨rfl,f⟩;have P:=Hq (Ae x.out f);have aa:=Hq (C.out.below f);have ad:=Hq (Ae N.out f);have ae:=Hq (Af O.out f);have af:=Hq (z.out.below f);clear f)
  |with_reducible refine lL P.out Ca ?_
  |(go_at_call 103;(with_reducible refine(u.out _ _ _ _ _ aa.out).mono ?_);rintro e w6 ⟨rfl,l⟩;have ag:=Hq (Ae P.out l);have Q:=Hq (Ae ad.out l);have ah:=Hq (Af ae.out l);have ai:=Hq (af.out.below l);clear l)
  |with_reducible refine lL ag.out Ca ?_
  |with_reducible refine lS (Bt r.lsn r.prev r.txn r.kind r.Ab r.next r.num r.op.kind r.op.slot r.op.A5 r.op.new r.how r.root r.e.key r.e.Ab r.e.slot (.slice A r.txns.length c) (.slice B r.dirty.length d)) Q.out ?_)
 refine rT3 (.int .i64 (cn:Int)) () Q.out Ca ?_;rw[p.out];refine⟨Gv ah.out _,A,c,B,d,?_,((ai.out.row w.heap.size _ (by have:=K.out;omega)).mono (by have:=K.out;omega))⟩;rw[← a8.out]
theorem iX (s:ByteArray)(a:Int)(b:s.size≤1000000)(w:World):
 Cq 59 #[s,a] w (Kq (if 0≤a then Lg.Jz s.data.toList a.toNat else none) w):=by
 have l:s.data.toList.length=s.size:=by simp
 by_cases d:0≤a
 ·rw[if_pos d]
  obtain⟨k,rfl⟩:=Int.eq_ofNat_of_zero_le d;rw[Int.toNat_natCast]
  by_cases e:k≤s.size
  ·by_cases h:s.size<k+4
   ·exact Wb s k b e h _ (Lg.Mw (by omega)) w
   by_cases i:s.size<k+8
   ·exact Wc s k b e _ (by omega) rfl i _ (Lg.Mw (by omega)) w
   by_cases j:s.size<k+8+Oct.Bq s.data.toList k 4
   ·exact Wd s k b e _ (by omega) rfl j _ (Lg.Mw (by omega)) w
   by_cases c:Oct.Bq s.data.toList (k+4) 4=Oct.Fg (Lg.Bk s.data.toList k)
   ·cases f:Rc.Et (Rc.Cd false (Lg.Bk s.data.toList k))with
    |false=>exact Zr s k _ _ b rfl rfl (by omega) c f w
    |true=>
     by_cases g:Rc.Bl (Rc.Cd false (Lg.Bk s.data.toList k))=Lg.Bk s.data.toList k
     ·exact oZ s k _ _ b rfl rfl (by omega) c f g w
     ·exact Zs s k _ _ b rfl rfl (by omega) c f g w
   ·exact iW s k _ _ b rfl rfl (by omega) c w
  ·exact Vx s _ (.inr (by omega)) _ (Lg.Mw (by omega)) w
 ·rw[if_neg d]
  exact Vx s _ (.inl (by omega)) _ rfl w
theorem iY (d:Lg.Dk)(a:∀ b∈d.Ad,b.size≤1000)(A:Option Addr)(c:Nat)(f:Int)(n:Int)(g: -9223372036854775808≤f)(i:f≤9223372036854775807)(j:n≤1000)(w:World)(h:Dv w d A c):
 Cq 58 #[Dj d A c,f,(),n] w (Yw (Lg.Fh d f n.toNat) w):=by
 have e:=Zq d a A c f 0 n (by omega) (by omega) (by omega) j w h;rw[show f+((0:Nat):Int)=f by omega,show n-((0:Nat):Int)=n by omega]at e;exact e
theorem iZ (s:ByteArray)(a:Nat)(b:s.size≤1000000)(w:World):
 Cq 59 #[s,.int .i64 (a:Int)] w (Kq (Lg.Jz s.data.toList a) w):=by
 have h:=iX s (a:Int) b w;rw[if_pos (by omega),Int.toNat_natCast]at h;exact h
theorem pA (d:Lg.Dk)(hw:∀ b∈d.Ad,b.size≤128)(bb:d.Ad.length≤7000)(A:Option Addr)(c:Nat)(f0 n0:Int)(b0: -9223372036854775808≤f0)(b1:f0≤9223372036854775807)(hn:n0≤1000)(w:World)(h:Dv w d A c):
 Cq 23 #[Dj d A c,f0,n0] w (Tu (Lg.Iq d f0 n0) w):=by
 have HS:=Hq (fun W (hb:Bw w W)=>iY d (fun b hb=>Nat.le_trans (hw b hb) (by omega)) A c f0 n0 b0 b1 hn W (h.below hb));have hlen:= @Lg.sX d hw n0.toNat f0;have HO:=Hq (fun t v w' x (hx:Lg.Iq d f0 n0=x) (h1:t.map (·.r)=x.2.1) (h2:Ep recC 18 47 w.heap.size w' v t) (h3:Kx w.heap.size w' t) (h4:Bw w w')=>show Tu (Lg.Iq d f0 n0) w (.returned (.tuple #[Qc x.1,v,x.2.2])) w' from⟨t,v,by rw[hx];exact h1,by rw[hx],h2,h3,h4⟩);have l:Lg.Iq d f0 n0=Lg.Iq d f0 n0:=rfl
 conv at l=>rhs;unfold Lg.Iq
 have b2:= @Lg.fQ d n0.toNat f0;generalize Lg.Iq d f0 n0=o at HO l ⊢;generalize Tu o w=Q at HO ⊢;clear h hw
 cases hs:Lg.Fh d f0 n0.toNat with
 |error e=>
  rw[hs]at HS l;have he:=b2 hs;simp only at l;have C:=Hq l;have bt:(e==0)=false:=by simpa using he
  have bu:(e != 0)=true:=by simpa using he
  clear l b2 hlen hs he hn b0 b1 bb;go_enter Tryz.func23,Tryz.ntmps23;go_upto_region 1 with fail;have H0:=O2 w #[.slice A d.Ad.length c,d.left,d.down] 28 #[(),(),(),(),""] 30;obtain⟨W0,a1⟩:=Gz H0;rw[← a1]at H0 ⊢;clear a1;dsimp only[Dj]at HS
  go_wp2_with(first
   |with_reducible refine lL H0.out.Am Ej ?_
   |(go_at_call 58;(with_reducible refine(HS.out _ H0.out.below).mono ?_);rintro e1 w1 ⟨a6,rfl⟩;(try dsimp only[vA]);have H1:=Hq (H0.out.step a6);clear a6)
   |with_reducible refine lS #[(),(),(),(),""] H1.out.As ?_)
  refine rT3 's' e H1.out.As Ks ?_;exact HO.out [] _ _ (Lg.yD,[],e) C.out rfl (Ml _ _ _ _) (Kx.nil _ _) ((H1.out.row 1 _ _ rfl).below)
 |ok L=>
  rw[hs]at HS l;simp only at l;have a7:=hlen hs;have bw:L.length≤1000000:=by
   rcases a7.2 with h0|h0
   ·have:=a7.1;rw[h0]at this;omega
   ·have:=a7.1
    have h3:n0.toNat≤7000:=(by omega);omega
  have C:=Hq l;clear l b2 hlen hs hn b0 b1 bb a7;obtain⟨S,hS⟩:=ex (⟨L.toArray⟩:ByteArray);have ao:S.data.toList=L:=by rw[hS]
  have bc:S.size=L.length:=by rw[← ao];simp
  have bx:S.size≤1000000:=by omega
  have HG:=Hq (fun a W=>iZ S a bx W);rw[ao]at HG;have bd:Hid (vA (.ok L)= .tuple #[S,()]):=Hq (by rw[hS];rfl);have b3:=Hq ao;have bf:=Hq (fun k m (hk:k≤S.size) (hm:m≤k)=>show(⟨((L.take k).drop (k-m)).toArray⟩:ByteArray)=S.extract (k-m) k from by
   rw[← b3.out]
   apply ByteArray.ext
   rw[ByteArray.data_extract]
   apply Array.toList_inj.1
   rw[Array.toList_extract,List.extract_eq_take_drop,List.drop_take])
  rw[← bc]at C;clear hS ao bw bc;go_enter Tryz.func23,Tryz.ntmps23;go_upto_region 1 with fail;have H0:=O2 w #[.slice A d.Ad.length c,d.left,d.down] 28 #[(),(),(),(),""] 30;obtain⟨W0,a1⟩:=Gz H0;rw[← a1]at H0 ⊢;clear a1;dsimp only[Dj]at HS
  go_upto_block 0 with(first
   |with_reducible refine lL H0.out.Am Ej ?_
   |(go_at_call 58;(with_reducible refine(HS.out _ H0.out.below).mono ?_);rintro e1 w1 ⟨a6,rfl⟩;rw[bd.out];have H1:=Hq (H0.out.step a6);clear a6))
  clear H0 HS bd
  go_cut [11,12] (fun v a wc=>∃ (t:List Qx) (k:Nat),a= .int .i64 (k:Int)∧k≤S.size∧Lg.Dx L (S.size+1) 0=(t.map (·.r),k)∧Fc w.heap.size w [(#[.slice A d.Ad.length c,d.left,d.down],28),(#[(),(),(),(),""],30)] wc∧Ep recC 18 47 (w.heap.size+2) wc v t∧Kx (w.heap.size+2) wc t)
  case first=>
   go_wp2_with fail
   go_loopw [11,12] (fun v a wr=>∃ (t:List Qx) (k f:Nat),a= .int .i64 (k:Int)∧k≤S.size∧S.size+1≤f+k∧t.length≤k∧Lg.Dx L (S.size+1) 0=(t.map (·.r)++(Lg.Dx L f k).1,(Lg.Dx L f k).2)∧Fc w.heap.size w [(#[.slice A d.Ad.length c,d.left,d.down],28),(#[(),(),(),(),""],30)] wr∧Ep recC 18 47 (w.heap.size+2) wr v t∧Kx (w.heap.size+2) wr t) (fun _ a _=>S.size-(intOf a).toNat)
   case atStart=>exact⟨[],0,S.size+1,rfl,Nat.zero_le _,Nat.le_refl _,Nat.le_refl _,rfl,H1.out,Ml _ _ _ _,Kx.nil _ _⟩
   case round=>
    obtain⟨t,k,f,rfl,hk,hf,cc,a8,aa,y,ad⟩:=hrel;obtain⟨f,rfl⟩:∃ g,f=g+1:=⟨f-1,by omega⟩;have aq:=Hq a8;have HB:=Hq aa;have ae:=Hq ad;obtain⟨A8,c8,rfl⟩:=Gd y;have af:=Hq y;clear a8 aa ad y H1;have D:=HG.out k;have V:= @Lg.iK L f k;have ag:= @Lg.iL L f k;have ah:= @Lg.sY L f k;have E:= @Lg.oN L k;rw[show L.length=S.size by rw[← b3.out];simp]at E
    by_cases cd:(k:Int)<(S.size:Int)
    rotate_left
    ·have hX:=aq.out
     have bg:Lg.Jz L k=none:=by
      cases U:Lg.Jz L k with
      |none=>rfl
      |some rb=>obtain⟨r,b⟩:=rb;have:=E U;omega
     rw[V bg,List.append_nil]at hX;have HX:=Hq hX;clear D V ag ah E hX bg;go_wp2_with fail;go_meet
     case rel=>exact⟨t,k,rfl,hk,HX.out,HB.out,af.out,ae.out⟩
    cases U:Lg.Jz L k with
    |none=>
     rw[U]at D;have ai:=Hq D;have HX:=Hq (aq.out.trans (by rw[V U,List.append_nil]));clear D V ag ah E U
     go_wp2_with(first
      |(go_at_call 59;(with_reducible refine(ai.out _).mono ?_);rintro e w2 ⟨u,kk,b4,rfl⟩;have bt:(kk==0)=false:=(by simpa using b4);have bu:(kk != 0)=true:=(by simpa using b4);clear b4)
      |with_reducible refine sN (Bt 0 0 0 0 0 0 0 0 0 ⟨#[]⟩ ⟨#[]⟩ 0 0 ⟨#[]⟩ 0 0 (.slice none 0 0) (.slice none 0 0)) ?_)
     go_meet
     case rel=>exact⟨t,k,rfl,hk,HX.out,HB.out.step (Ak u),Ce af.out (Ak u),ae.out.below (Ak u)⟩
    |some rb=>
     obtain⟨r,b⟩:=rb;rw[U]at D;have ai:=Hq D;obtain⟨_,cf,bz⟩:=E U
     by_cases hl:r.lsn=(k:Int)+1
     ·have HX:=Hq (aq.out.trans (by rw[ah U hl]))
      clear D V ag ah E U;obtain⟨aj,prev,n,kind,Ab,next,F,⟨ok,os,G,on⟩,s,root,⟨H,I,es⟩,J,K⟩:=r;simp only at hl;subst hl;have c6:IntKind.i64.wrap ((k:Int)+1)=(k:Int)+1:=IntWalk.i64_in _ (by omega);have b5:(((k:Int)+1) != ((k:Int)+1))=false:=by simp
      go_upto_region 9 with(first
       |(go_at_call 59;(with_reducible refine(ai.out _).mono ?_);rintro e w2 ⟨u,N,c1,O,d1,rfl,b6⟩;(try dsimp only[Dp,Ec]);have ar:=Aa (heap_alloc_new w2 (.cells (Bt ((k:Int)+1) prev n kind Ab next F ok os G on s root H I es (.slice N J.length c1) (.slice O K.length d1)) 47));simp at ar)
       |(with_reducible refine sN (Bt ((k:Int)+1) prev n kind Ab next F ok os G on s root H I es (.slice N J.length c1) (.slice O K.length d1)) ?_))
      have bh:=Hq (heap_alloc_new w2 (.cells (Bt ((k:Int)+1) prev n kind Ab next F ok os G on s root H I es (.slice N J.length c1) (.slice O K.length d1)) 47));have P:=Hq (HB.out.step (Ak (o:=.cells (Bt ((k:Int)+1) prev n kind Ab next F ok os G on s root H I es (.slice N J.length c1) (.slice O K.length d1)) 47) u));have X:=Hq (Ce af.out (Ak (o:=.cells (Bt ((k:Int)+1) prev n kind Ab next F ok os G on s root H I es (.slice N J.length c1) (.slice O K.length d1)) 47) u));have ak:=Hq ((ae.out.below (Ak (o:=.cells (Bt ((k:Int)+1) prev n kind Ab next F ok os G on s root H I es (.slice N J.length c1) (.slice O K.length d1)) 47) u)).push (p:=⟨⟨(k:Int)+1,prev,n,kind,Ab,next,F,⟨ok,os,G,on⟩,s,root,⟨H,I,es⟩,J,K⟩,N,c1,O,d1⟩) ((b6.mono (by have h1:=HB.out.lt (i:=1) (by simp);omega)).below (Ag w2 _)));obtain⟨g,R⟩:=ex w2.heap.size;obtain⟨w3,au⟩:=ex (w2.alloc (.cells (Bt ((k:Int)+1) prev n kind Ab next F ok os G on s root H I es (.slice N J.length c1) (.slice O K.length d1)) 47));rw[← R,← au]at bh;rw[← au]at P X ak
      try rw[← R]
      try rw[← au]
      clear R au ar u b6 af ae HB ai b5;have c7:t.length+1≤1048576:=by omega
      go_wp2_with(first
       |with_reducible refine lL bh.out Ca ?_
       |(at_builtin;refine Lf Kr (.tmp 48) (.tmp 50) 66 47 Adr oO rfl (by omega) (by omega) rfl (w.heap.size+2) _ t.length (t.flatMap recC) rfl (Ce X.out (Ag _ _)) w3.heap.size (recC ⟨⟨(k:Int)+1,prev,n,kind,Ab,next,F,⟨ok,os,G,on⟩,s,root,⟨H,I,es⟩,J,K⟩,N,c1,O,d1⟩) 47 rfl (heap_alloc_new w3 _) rfl (tA _) c7 (by have:=P.out.lt (i:=1) (by simp);simp;omega) ?_;intro v7 w7 ho U hb;have bj:=fun q hq=>((ak.out.below (Ag w3 (.cells (Bt ((k:Int)+1) prev n kind Ab next F ok os G on s root H I es (.slice N J.length c1) (.slice O K.length d1)) 47))) q hq).grown (Ce X.out (Ag w3 (.cells (Bt ((k:Int)+1) prev n kind Ab next F ok os G on s root H I es (.slice N J.length c1) (.slice O K.length d1)) 47))) (by decide) (by decide) U;have Y:=Hq ((P.out.step (Ag w3 (.cells (Bt ((k:Int)+1) prev n kind Ab next F ok os G on s root H I es (.slice N J.length c1) (.slice O K.length d1)) 47))).under (M:=w.heap.size+2) (Nat.le_refl _) hb);have av:=Hq (Ep.push (enc:=recC) ho);have aw:=Hq bj;clear ho U hb bj))
      go_roundw
      case rel=>exact⟨_,b,f,rfl,bz,by omega,by rw[List.length_append,List.length_singleton];omega,by rw[HX.out,List.map_append,List.append_assoc];rfl,Y.out,av.out,aw.out⟩
      case measure=>simp[intOf];omega
     ·have HX:=Hq (aq.out.trans (by rw[ag U hl,List.append_nil]))
      clear D V ag ah E U;obtain⟨aj,prev,n,kind,Ab,next,F,⟨ok,os,G,on⟩,s,root,⟨H,I,es⟩,J,K⟩:=r;simp only at hl;have c6:IntKind.i64.wrap ((k:Int)+1)=(k:Int)+1:=IntWalk.i64_in _ (by omega);have cg:(aj==((k:Int)+1))=false:=(by simpa using hl);have a7:(aj != ((k:Int)+1))=true:=(by simpa using hl);clear hl
      go_wp2_with(first
       |(go_at_call 59;(with_reducible refine(ai.out _).mono ?_);rintro e w2 ⟨u,N,c1,O,d1,rfl,b6⟩;(try dsimp only[Dp,Ec]);have ar:=Aa (heap_alloc_new w2 (.cells (Bt aj prev n kind Ab next F ok os G on s root H I es (.slice N J.length c1) (.slice O K.length d1)) 47));simp at ar)
       |with_reducible refine sN (Bt aj prev n kind Ab next F ok os G on s root H I es (.slice N J.length c1) (.slice O K.length d1)) ?_)
      go_meet
      case rel=>exact⟨t,k,rfl,hk,HX.out,HB.out.step (Ak u),Ce af.out (Ak u),ae.out.below (Ak u)⟩
  case rest=>
   obtain⟨t,k,rfl,hk,a8,aa,y,ad⟩:=hcut;obtain⟨wb,rfl⟩:=ex wc;obtain⟨A8,c8,rfl⟩:=Gd y;have P:=Hq aa;have X:=Hq y;have ak:=Hq ad;obtain⟨m,hm⟩:=ex (k%128:Nat);have ca:(k:Int)%128=(m:Int):=(by omega);have az:=Hq (show o=(⟨f0,n0,(k:Int),(k:Int),S.extract (k-m) k⟩,t.map (·.r),0)from by
    rw[C.out,a8];simp only;rw[← hm,bf.out k m hk (by omega)])
   clear a8 aa y ad H1 C bf HG b3 hm;obtain⟨q,hq⟩:=ex (k-m:Nat);obtain⟨z,hz⟩:=ex ((k:Int)/128:Int);have ch:IntKind.i64.wrap (z*128)=(q:Int):=by
    have e:z*128=(q:Int):=(by omega);rw[e];exact IntWalk.i64_in _ (by omega)
   have cj:(q:Int)≤(k:Int):=(by omega);have cb:q≤k:=(by omega);have ck:(k:Int)≤(S.size:Int):=(by omega);rw[← hq]at az;have bk:=Hq (fun W=>iV f0 n0 (k:Int) (k:Int) ⟨#[]⟩ (by omega) (by omega) W);rw[← hz]at bk;clear hq hz ca
   go_upto_region 12 with(with_reducible refine sN #[f0,n0,.int .i64 (k:Int),.int .i64 (k:Int),""] ?_)
   have ax:=Hq (heap_alloc_new wb (.cells #[f0,n0,.int .i64 (k:Int),.int .i64 (k:Int),""] 30));have b7:=Hq (P.out.step (Ag wb (.cells #[f0,n0,.int .i64 (k:Int),.int .i64 (k:Int),""] 30)));have b8:=Hq (Ce X.out (Ag wb (.cells #[f0,n0,.int .i64 (k:Int),.int .i64 (k:Int),""] 30)));have b9:=Hq (ak.out.below (Ag wb (.cells #[f0,n0,.int .i64 (k:Int),.int .i64 (k:Int),""] 30)));have bl:w.heap.size+2≤wb.heap.size:=P.out.lt (i:=1) (by simp);obtain⟨g,R⟩:=ex wb.heap.size;obtain⟨w5,ba⟩:=ex (wb.alloc (.cells #[f0,n0,.int .i64 (k:Int),.int .i64 (k:Int),""] 30));rw[← R,← ba]at ax;rw[← ba]at b7 b8 b9 ⊢;rw[← R]at bl ⊢;clear R ba P X ak
   go_upto_region 13 with(first
    |with_reducible refine lL ax.out Ks ?_
    |(go_at_call 60;(with_reducible refine(bk.out _).mono ?_);rintro e w6 ⟨rfl,an⟩;have Z:=Hq (Ae ax.out an);have bm:=Aa Z.out;have bn:=Aj Z.out;have bo:=Hq (b7.out.step an);have bp:=Hq (Ce b8.out an);have bq:=Hq (b9.out.below an);clear an))
   have br:=Hq (show(w6.setCell ⟨g,4,none⟩ (.string (S.extract q k))).heap[g]? =some (.cells #[f0,n0,.int .i64 (k:Int),.int .i64 (k:Int),.string (S.extract q k)] 30 (0,0))from by have h:=Cb 4 Z.out (.string (S.extract q k));simpa using h);have ay:=Hq ((Fe.refl g (g+1) w6).cell g 4 (.string (S.extract q k)) (Nat.le_refl _) (Nat.lt_succ_self _));have bs:=Hq (show Below g w6 (w6.setCell ⟨g,4,none⟩ (.string (S.extract q k)))from(Below.refl g w6).setCell (p:=⟨g,4,none⟩) (Nat.le_refl _) _);have Y:=Hq (bo.out.under (M:=g) (by show w.heap.size+2≤g;exact bl) bs.out);have av:=Hq (dO bp.out Z.out (by decide) ay.out);have aw:=Hq (show Kx (w.heap.size+2) _ t from fun p hp=>(bq.out p hp).L6 ay.out.size (fun j cs T fr hj B hT=>ay.out.block j (C8 B) (by
    rcases Nat.lt_trichotomy j g with h1|h1|h1
    ·exact .inl h1
    ·exfalso
     subst h1;rw[Z.out]at B
     injection B with B
     injection B with _ B
     rcases hT with h3|h3
     ·rw[h3]at B;exact absurd B (by decide)
     ·rw[h3]at B;exact absurd B (by decide)
    ·exact .inr h1)))
   generalize w6.setCell ⟨g,4,none⟩ (.string (S.extract q k))=w7 at br Y av aw ⊢;clear ax Z ay bs b7 b8 b9 bo bp bq bm bn
   go_wp2_with(first
    |with_reducible refine lL br.out Ks ?_
    |with_reducible refine lS #[f0,n0,.int .i64 (k:Int),.int .i64 (k:Int),.string (S.extract q k)] Y.out.As ?_)
   refine rT3 (.slice A8 t.length c8) () Y.out.As Ks ?_;exact HO.out t _ _ (⟨f0,n0,(k:Int),(k:Int),S.extract q k⟩,t.map (·.r),0) az.out rfl (jF (N6 av.out _ _ (by omega)) (by omega)) (fun p hp=>((aw.out p hp).row _ _ (by omega)).mono (by omega)) ((Y.out.row 1 _ _ rfl).below)
end Go.Proofs.YtdfkambdagoojaaGreatDoor
