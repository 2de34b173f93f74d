import Derived.Test.YtmldoihahndcgaaGreatDoorHq00
import Derived.Test.YtmldoihahndcgaaGreatDoorHq06
import Derived.Test.YtmldoihahndcgaaGreatDoorHq11
import Derived.Test.YtmldoihahndcgaaGreatDoorHq07
import Derived.Test.YtmldoihahndcgaaGreatDoorHq01
import Derived.BigRegion
set_option maxRecDepth 100000
set_option maxHeartbeats 16000000
set_option linter.unusedSimpArgs false
namespace Go.Proofs.YtmldoihahndcgaaGreatDoor
open Go.RowKit
theorem O0 (d:Lg.Dk)(A:Option Addr)(c:Nat)(a:Int)(w:World):
 Cr 294 #[Cd d A c,a] w (.bool (decide (Lg.G8 d a))):=by
 obtain⟨L,left,down⟩:=d
 by_cases b:0≤a
 ·by_cases e:a<(L.length:Int)
  ·rw[decide_eq_true (show Lg.G8 ⟨L,left,down⟩ a from And.intro b e)]
   go_enter Tryz.func294,Tryz.ntmps294;go_wp2_with fail;go_ret;exact⟨by simp,Ad _ _⟩
  ·rw[decide_eq_false (show ¬ Lg.G8 ⟨L,left,down⟩ a from fun h=>e h.2)]
   go_enter Tryz.func294,Tryz.ntmps294;go_wp2_with fail;go_ret;exact⟨by simp,Ad _ _⟩
 ·rw[decide_eq_false (show ¬ Lg.G8 ⟨L,left,down⟩ a from fun h=>b h.1)]
  go_enter Tryz.func294,Tryz.ntmps294;go_wp2_with fail;go_ret;exact⟨by simp,Ad _ _⟩
theorem Tj (d:Lg.Dk)(A:Option Addr)(c:Nat)(a:Int)(w:World)(h:By w d A c):
 Cr 266 #[Cd d A c,a] w (.tuple #[.string (Lg.Jy d a).1,.int .i64 (Lg.Jy d a).2]):=by
 have j:=Hq (fun W=>O0 d A c a W);have q:=Hq h.secs;clear h;unfold Lg.Jy
 cases l:d.down with
 |true=>
  obtain⟨L,left,down⟩:=d;simp only at l;subst l;rw[if_pos rfl];dsimp only[Cd];go_enter Tryz.func266,Tryz.ntmps266;go_wp2_with fail;go_ret2;exact⟨rfl,Ad _ _⟩
 |false=>
  rw[if_neg (by simp)]
  by_cases i:Lg.G8 d a
  ·rw[if_pos i]
   rw[decide_eq_true i]at j;obtain⟨L,left,down⟩:=d;simp only at l;subst l;unfold Lg.G8 at i;unfold Lg.Io;dsimp only[Cd]at i j q ⊢;obtain⟨r,y⟩:=i;obtain⟨k,rfl⟩:=Int.eq_ofNat_of_zero_le r;have s:k<L.length:=(by omega);obtain⟨b,off,rfl,z,n,g⟩:=Bi Lv q.out s;have m:=g 0 _ rfl;simp only[Nat.mul_one,Nat.add_zero]at m;rw[Int.toNat_natCast,List.getElem?_eq_getElem s,Option.getD_some];generalize L[k]=x at m ⊢;have u:=Hq m;clear m g r;go_enter Tryz.func266,Tryz.ntmps266
   go_upto_region 5 with(go_at_call 294;(with_reducible refine(j.out _).mono ?_);rintro e t ⟨rfl,f⟩;have v:=Aa (Cb f))
   have B:t.cell? ⟨b,off+k,none⟩=some (.string x):=(Ae (Ad w _) f).cell (p:=⟨b,off+k,none⟩) n|>.trans u.out
   have o:=Hq (Ae (Ad w _) f);clear f;go_wp2_with fail;go_ret2;exact⟨rfl,o.out⟩
  ·rw[if_neg i]
   rw[decide_eq_false i]at j;clear i;obtain⟨L,left,down⟩:=d;simp only at l;subst l;dsimp only[Cd]at j ⊢;go_enter Tryz.func266,Tryz.ntmps266
   go_wp2_with(go_at_call 294;(with_reducible refine(j.out _).mono ?_);rintro e t ⟨rfl,f⟩)
   go_ret2;exact⟨rfl,Ae (Ad _ _) f⟩
theorem Tk (f n e s:Int)(t:ByteArray)(a:0≤s)(g:s≤1000000000)(w:World):
 Cr 290 #[.agg #[f,n,e,s,t]] w (.int .i64 (s/128)):=by
 have d:s.tdiv 128=s/128:=Int.tdiv_eq_ediv_of_nonneg a;have b:IntKind.i64.wrap (s/128)=s/128:=IntWalk.i64_in _ (by omega);have c:IntKind.i64.wrap (s.tdiv 128)=s/128:=by rw[d];exact b
 go_enter Tryz.func290,Tryz.ntmps290;go_wp2_with fail;go_ret;exact⟨by simp,Ad _ _⟩
theorem jP (L:List ByteArray)(left:Int)(down:Bool)(A:Option Addr)(c:Nat)(k:Nat)(b:ByteArray)(P:k<L.length)(hlen:L.length≤1000000)(w:World)(h:Reads w A c L.length (L.flatMap G9)):
 Cq 322 #[.agg #[.slice A L.length c,left,down],.int .i64 (k:Int),b] w fun e w'=>∃ A2 c2,e= .returned (.agg #[.slice A2 L.length c2,left,down])∧Reads w' A2 c2 L.length ((L.map Value.string).set k (.string b))∧C4 w.heap.size w' 9 A2∧Bw w w':=by
 obtain⟨i0,W,B,C,D⟩:=info_parts J0;have X:(k:Int)<(L.length:Int):=by omega
 have Y:=Hq h;clear h;go_enter Tryz.func322,Tryz.ntmps322;go_upto_region 1 with fail;have o:=Il w #[.slice A L.length c,left,down] 28 #['s',(),false] 28;have q:=Aa o.out.Ag;obtain⟨m,f⟩:=Dr o;have E:=Hq (show m.heap.size=w.heap.size+2 from by rw[f];simp);rw[← f]at o q ⊢;clear f;have H1:=Hq (o.out.step (Ad m (.cells #[] 9)));have r:=Hq (Y.out.below H1.out.below);have Z:=Aa H1.out.Ag
 go_upto_region 2 with(at_builtin;refine Bt Kr fun K hK=>Ir (m.alloc (.cells #[] 9)) (.tmp 8) (.tmp 10) 26 9 i0 (.string ⟨#[]⟩) 1 16 Vd W B C D rfl (by omega) rfl m.heap.size _ 0 [] rfl (Ic m 9 1) A L.length c (L.flatMap G9) rfl r.out (by rw[Di Lv]) (fun u Q=>by rw[Lw]at Q;obtain⟨x,_,rfl⟩:=List.mem_map.1 Q;rfl) (by omega) (by omega) (by simp) ?_;intro v2 R z hg S;refine hK _ _ ?_)
 rw[List.nil_append,Nat.zero_add,Lw]at z;have F:=E.out;have T:=Hq (H1.out.under (M:=m.heap.size) (by rw[F];exact Nat.le_refl _) S);obtain⟨A2,c2,rfl⟩:=Jb z;obtain⟨g,cap,hv,a1,a6,U,i,G,a⟩:=kS z P
 injection hv with H a7 I
 subst H I;rw[List.getElem?_eq_getElem (by simpa using P)]at i;simp only[List.getElem_map]at i;have d:=Hq a;clear z a hg S H1 r o q;go_upto_region 3 with fail;have J:w.heap.size+2≤g:=by omega
 have s:=Hq (T.out.under (M:=g) (by show w.heap.size+2≤g;exact J) ((Below.refl g R).setCell (p:=⟨g,k,none⟩) (Nat.le_refl g) (.string b)));have j:=Hq (d.out (.string b));obtain⟨V,t⟩:=ex (R.setCell ⟨g,k,none⟩ (.string b));rw[← t]at s j ⊢;have N:=Aa s.out.Ag;have O:=Ao s.out.Ag;clear t i G d T;go_upto_region 4 with fail;have n:=Hq (s.out.set 0 0 (.slice (some ⟨g,0,none⟩) L.length c2) _ rfl);simp only[Nat.add_zero]at n;have v:=Hq (show(V.setCell ⟨w.heap.size,0,none⟩ (.slice (some ⟨g,0,none⟩) L.length c2)).heap[w.heap.size]? =some (.cells #[.slice (some ⟨g,0,none⟩) L.length c2,left,down] 28 (0,0))from by have h:=n.out.Ag;simpa using h);have l:=Hq (Ja j.out ⟨w.heap.size,0,none⟩ (.slice (some ⟨g,0,none⟩) L.length c2) (by show w.heap.size<_;omega));obtain⟨W5,y⟩:=ex (V.setCell ⟨w.heap.size,0,none⟩ (.slice (some ⟨g,0,none⟩) L.length c2));rw[← y]at n v l ⊢;clear y N O j s
 go_wp2_with(first
  |with_reducible refine lL v.out Bz ?_|with_reducible refine lS #[.slice (some ⟨g,0,none⟩) L.length c2,left,down] n.out.Ah ?_)
 refine rT1 n.out.Ah Bz ?_;exact⟨_,_,rfl,(Dq l.out).Vh _ _ (fun _ ad e=>(by injection e with e;rw[← e];show g≠w.heap.size+1;omega)),((C4.own l.out).row _ _).mono (by omega),(n.out.row 1 _ _ rfl).below⟩
theorem Zu (L:List ByteArray)(left:Int)(A:Option Addr)(c:Nat)(a:Int)(b:ByteArray)(x:Lg.Dk×Int)(i:x=(⟨L,left,true⟩,20))(w:World)(h:By w ⟨L,left,true⟩ A c):
 Cq 291 #[.agg #[.slice A L.length c,left,true],a,b] w (Eg x A w):=by
 have j:=Hq (fun w' k=>Hn (dn:=true) i h (w':=w') k);dsimp only at j;clear i h;go_enter Tryz.func291,Tryz.ntmps291;go_upto_region 1 with fail;have d:=Il w #[.slice A L.length c,left,true] 28 #['s',(),false] 28;have f:=Aa d.out.Ag;obtain⟨l,e⟩:=Dr d;rw[← e]at d f ⊢;clear e;have g:=Hq (show l.heap[w.heap.size]? =some (.cells #[.slice A L.length c,left,true] 28 (0,0))from(by have h:=d.out.Ag;simpa using h))
 go_wp2_with(first|with_reducible refine lL g.out Bz ?_|with_reducible refine lS #[.slice A L.length c,left,true] d.out.Ah ?_)
 refine rT2 (.int .i64 20) d.out.Ah Bz ?_;exact j.out _ ((d.out.row 1 _ _ rfl).below)
theorem dG (L:List ByteArray)(left:Int)(A:Option Addr)(c:Nat)(a:Int)(b:ByteArray)(i:¬ (Lg.G8 ⟨L,left,false⟩ a∧b.size=128))(x:Lg.Dk×Int)(y:x=(⟨L,left,false⟩,1))(w:World)(h:By w ⟨L,left,false⟩ A c):
 Cq 291 #[.agg #[.slice A L.length c,left,false],a,b] w (Eg x A w):=by
 have o:=Hq (fun w' z=>Hn (dn:=false) y h (w':=w') z);dsimp only at o;have m:=Hq (fun W=>O0 ⟨L,left,false⟩ A c a W);clear y h
 by_cases n:Lg.G8 ⟨L,left,false⟩ a
 ·rw[decide_eq_true n]at m
  have B:¬ b.size=128:=fun e=>i ⟨n,e⟩;have p:((b.size:Int)==128)=false:=by simp;omega
  have q:((b.size:Int) != 128)=true:=by simp;omega
  have r:(b.size==128)=false:=by simp;omega
  have s:(b.size != 128)=true:=by simp;omega
  clear i n;dsimp only[Cd]at m;go_enter Tryz.func291,Tryz.ntmps291;go_upto_region 1 with fail;have d:=Il w #[.slice A L.length c,left,false] 28 #['s',(),false] 28;have j:=Aa d.out.Ag;obtain⟨t,f⟩:=Dr d;rw[← f]at d j ⊢;clear f;have k:=Hq (show t.heap[w.heap.size]? =some (.cells #[.slice A L.length c,left,false] 28 (0,0))from(by have h:=d.out.Ag;simpa using h))
  go_upto_region 4 with(first|with_reducible refine lL k.out Bz ?_|(go_at_call 294;(with_reducible refine(m.out _).mono ?_);rintro e u ⟨rfl,g⟩;have H1:=Hq (d.out.step g);clear g;have v:=Aa H1.out.Ag))
  have l:=Hq (show u.heap[w.heap.size]? =some (.cells #[.slice A L.length c,left,false] 28 (0,0))from(by have h:=H1.out.Ag;simpa using h));clear B p q r s
  go_wp2_with(first|with_reducible refine lL l.out Bz ?_|with_reducible refine lS #[.slice A L.length c,left,false] H1.out.Ah ?_)
  refine rT2 (.int .i64 1) H1.out.Ah Bz ?_;exact o.out _ ((H1.out.row 1 _ _ rfl).below)
 ·rw[decide_eq_false n]at m
  clear i n;dsimp only[Cd]at m;go_enter Tryz.func291,Tryz.ntmps291;go_upto_region 1 with fail;have d:=Il w #[.slice A L.length c,left,false] 28 #['s',(),false] 28;have j:=Aa d.out.Ag;obtain⟨t,f⟩:=Dr d;rw[← f]at d j ⊢;clear f;have k:=Hq (show t.heap[w.heap.size]? =some (.cells #[.slice A L.length c,left,false] 28 (0,0))from(by have h:=d.out.Ag;simpa using h))
  go_upto_region 4 with(first|with_reducible refine lL k.out Bz ?_|(go_at_call 294;(with_reducible refine(m.out _).mono ?_);rintro e u ⟨rfl,g⟩;have H1:=Hq (d.out.step g);clear g;have v:=Aa H1.out.Ag))
  have l:=Hq (show u.heap[w.heap.size]? =some (.cells #[.slice A L.length c,left,false] 28 (0,0))from(by have h:=H1.out.Ag;simpa using h))
  go_wp2_with(first|with_reducible refine lL l.out Bz ?_|with_reducible refine lS #[.slice A L.length c,left,false] H1.out.Ah ?_)
  refine rT2 (.int .i64 1) H1.out.Ah Bz ?_;exact o.out _ ((H1.out.row 1 _ _ rfl).below)
theorem dH (L:List ByteArray)(A:Option Addr)(c:Nat)(a:Int)(b:ByteArray)(r:Lg.G8 ⟨L,0,false⟩ a)(u:b.size=128)(x:Lg.Dk×Int)(s:x=(⟨L,0,true⟩,20))(w:World)(h:By w ⟨L,0,false⟩ A c):
 Cq 291 #[.agg #[.slice A L.length c,(),false],a,b] w (Eg x A w):=by
 have t:=Hq (fun w' v=>Hn (dn:=true) s h (w':=w') v);dsimp only at t;have i:=Hq (fun W=>O0 ⟨L,0,false⟩ A c a W);rw[decide_eq_true r]at i;have j:((b.size:Int)==128)=true:=by simp;omega
 have k:((b.size:Int) != 128)=false:=by simp;omega
 have l:(b.size==128)=true:=by simp;omega
 have m:(b.size != 128)=false:=by simp;omega
 clear s h u r;dsimp only[Cd]at i;go_enter Tryz.func291,Tryz.ntmps291;go_upto_region 1 with fail;have d:=Il w #[.slice A L.length c,(),false] 28 #['s',(),false] 28;have n:=Aa d.out.Ag;obtain⟨y,f⟩:=Dr d;rw[← f]at d n ⊢;clear f;have o:=Hq (show y.heap[w.heap.size]? =some (.cells #[.slice A L.length c,(),false] 28 (0,0))from(by have h:=d.out.Ag;simpa using h))
 go_upto_region 5 with(first|with_reducible refine lL o.out Bz ?_|(go_at_call 294;(with_reducible refine(i.out _).mono ?_);rintro e z ⟨rfl,g⟩;have H1:=Hq (d.out.step g);clear g;have B:=Aa H1.out.Ag))
 clear j k l m;have C:=Ao H1.out.Ag;go_upto_region 7 with fail;have p:=Hq (show(z.setCell ⟨w.heap.size,2,none⟩ (.bool true)).heap[w.heap.size]? =some (.cells #[.slice A L.length c,(),true] 28 (0,0))from by have h:=(H1.out.set 0 2 (.bool true) _ rfl).get 0 _ rfl;simpa using h);have q:=Hq (H1.out.set 0 2 (.bool true) _ rfl)
 go_wp2_with(first|with_reducible refine lL p.out Bz ?_|with_reducible refine lS #[.slice A L.length c,(),true] q.out.Ah ?_)
 refine rT2 (.int .i64 20) q.out.Ah Bz ?_;exact t.out _ ((q.out.row 1 _ _ rfl).below)
theorem jQ (L:List ByteArray)(left:Int)(t:left≠0)(I: -9223372036854775808≤left∧left≤9223372036854775807)(A:Option Addr)(c:Nat)(k:Nat)(b:ByteArray)(J:k<L.length)(K:b.size=128)(x:Lg.Dk×Int)(F:x=(⟨L.set k b,if 0<left then left-1 else left,false⟩,0))(w:World)(h:By w ⟨L,left,false⟩ A c):
 Cq 291 #[.agg #[.slice A L.length c,left,false],.int .i64 (k:Int),b] w (Eg x A w):=by
 have r:=Hq (fun W=>O0 ⟨L,left,false⟩ A c k W);rw[decide_eq_true (show Lg.G8 ⟨L,left,false⟩ (k:Int)from⟨by omega,by show(k:Int)<(L.length:Int);omega⟩)]at r;have u:((b.size:Int)==128)=true:=by simp;omega
 have v:((b.size:Int) != 128)=false:=by simp;omega
 have y:(left==0)=false:=by simpa using t
 have hlen:L.length≤1000000:=h.small;have G:=Hq (fun left W (M:Bw w W)=>jP L left false A c k b J hlen W (h.secs.below M));have s:=Hq F;clear F h K;dsimp only[Cd]at r;go_enter Tryz.func291,Tryz.ntmps291;go_upto_region 1 with fail;have i:=Il w #[.slice A L.length c,left,false] 28 #['s',(),false] 28;have l:=Aa i.out.Ag;obtain⟨N,m⟩:=Dr i;rw[← m]at i l ⊢;clear m;have n:=Hq (show N.heap[w.heap.size]? =some (.cells #[.slice A L.length c,left,false] 28 (0,0))from(by have h:=i.out.Ag;simpa using h))
 go_upto_region 8 with(first|with_reducible refine lL n.out Bz ?_|(go_at_call 294;(with_reducible refine(r.out _).mono ?_);rintro e z ⟨rfl,o⟩;have H1:=Hq (i.out.step o);clear o;have B:=Aa H1.out.Ag))
 clear u v y r l n i
 by_cases H:0<left
 ·rw[if_pos H]at s
  have O:IntKind.i64.wrap (left-1)=left-1:=IntWalk.i64_in _ (by omega);have C:=Ao H1.out.Ag;go_upto_region 10 with fail;have j:=Hq (H1.out.set 0 1 (.int .i64 (left-1)) _ rfl);have p:=Hq (show(z.setCell ⟨w.heap.size,1,none⟩ (.int .i64 (left-1))).heap[w.heap.size]? =some (.cells #[.slice A L.length c,.int .i64 (left-1),false] 28 (0,0))from by have h:=j.out.Ag;simpa using h);simp only[Nat.add_zero]at j;obtain⟨Q,q⟩:=ex (z.setCell ⟨w.heap.size,1,none⟩ (.int .i64 (left-1)));rw[← q]at j p ⊢;clear q C B H1
  go_wp2_with(first
   |with_reducible refine lL p.out Bz ?_
   |(go_at_call 322;(with_reducible refine(G.out _ _ j.out.below).mono ?_);rintro e P ⟨D,c2,rfl,f,a,g⟩;have d:=Hq (j.out.step g))
   |with_reducible refine lS #[.slice D L.length c2,.int .i64 (left-1),false] d.out.Ah ?_)
  refine rT2 () d.out.Ah Bz ?_;exact Ml s.out (by rw[List.length_set]) (a.Dj f d.out.Ah (by decide) _) rfl rfl (by rw[List.length_set];exact hlen) ((a.row _ _).mono j.out.below.size) ((d.out.row 1 _ _ rfl).below)
 ·rw[if_neg H]at s
  have E:=Hq (show z.heap[w.heap.size]? =some (.cells #[.slice A L.length c,left,false] 28 (0,0))from(by have h:=H1.out.Ag;simpa using h))
  go_wp2_with(first
   |with_reducible refine lL E.out Bz ?_
   |(go_at_call 322;(with_reducible refine(G.out _ _ H1.out.below).mono ?_);rintro e P ⟨D,c2,rfl,f,a,g⟩;have d:=Hq (H1.out.step g))
   |with_reducible refine lS #[.slice D L.length c2,left,false] d.out.Ah ?_)
  refine rT2 () d.out.Ah Bz ?_;exact Ml s.out (by rw[List.length_set]) (a.Dj f d.out.Ah (by decide) _) rfl rfl (by rw[List.length_set];exact hlen) ((a.row _ _).mono H1.out.below.size) ((d.out.row 1 _ _ rfl).below)
theorem Nw (d:Lg.Dk)(f: -9223372036854775808≤d.left∧d.left≤9223372036854775807)(A:Option Addr)(c:Nat)(a:Int)(b:ByteArray)(w:World)(h:By w d A c):
 Cq 291 #[Cd d A c,a,b] w (Eg (Lg.Cl d a b) A w):=by
 obtain⟨L,left,down⟩:=d
 cases down with
 |true=>exact Zu L left A c a b _ (by unfold Lg.Cl;rw[if_pos rfl]) w h
 |false=>
  by_cases e:Lg.G8 ⟨L,left,false⟩ a∧b.size=128
  ·by_cases g:left=0
   ·subst g
    exact dH L A c a b e.1 e.2 _ (by unfold Lg.Cl;rw[if_neg (by simp),if_neg (fun i=>i e),if_pos rfl]) w h
   ·obtain⟨k,rfl⟩:=Int.eq_ofNat_of_zero_le e.1.1
    have j:k<L.length:=(by have l:=e.1.2;simp only at l;omega);exact jQ L left g f A c k b j e.2 _ (by unfold Lg.Cl;rw[if_neg (by simp),if_neg (fun i=>i e),if_neg g];simp) w h
  ·exact dG L left A c a b e _ (by unfold Lg.Cl;rw[if_neg (by simp),if_pos e]) w h
theorem Tl (s:ByteArray)(h:s.size≤128)(w:World):
 Cr 292 #[s] w (.string (Lg.Fy s.data.toList)):=by
 obtain⟨k,d⟩:=ex (128-s.size);have i:IntKind.i64.wrap ((128:Int)-(s.size:Int))=(k:Int):=by
  have e:(128:Int)-(s.size:Int)=(k:Int):=by omega
  rw[e];exact IntWalk.i64_in _ (by omega)
 have g:=fun W=>Sb k (by omega) W;have b:=Sd k;have a:Lg.Fy s.data.toList=s++⟨(List.replicate k 0).toArray⟩:=by
  unfold Lg.Fy
  apply ByteArray.ext
  rw[ByteArray.data_append]
  apply Array.toList_inj.1
  have j:s.data.toList.length=s.size:=by simp
  simp[d]
 have c:(⟨(List.replicate k 0).toArray⟩:ByteArray).size=k:=by show(List.replicate k (0:UInt8)).toArray.size=_;simp
 rw[a];generalize (⟨(List.replicate k 0).toArray⟩:ByteArray)=R at b c ⊢;have f:∀ W:World,(Op.stringOp .add s R).run Tryz.prog W= .ok (.string (s++R)) W:=fun W=>run_string_add_sum W _ _ (by omega);clear a d;go_enter Tryz.func292,Tryz.ntmps292;go_wp2_with fail;go_ret;exact⟨rfl,Ad _ _⟩
theorem jR (t:ByteArray)(s:t.size≤1000000)(k:Nat)(g:k*128≤t.size)(w:World):
 Cr 293 #[t,.int .i64 (k:Int)] w (.string (Lg.Fy ((t.data.toList.drop (k*128)).take 128))):=by
 obtain⟨a,c⟩:=ex (k*128);rw[← c]at g ⊢;have i:IntKind.i64.wrap ((k:Int)*128)=(a:Int):=by
  have e:(k:Int)*128=(a:Int):=by omega
  rw[e];exact IntWalk.i64_in _ (by omega)
 have j:IntKind.i64.wrap ((a:Int)+128)=(a:Int)+128:=IntWalk.i64_in _ (by omega);obtain⟨m,l⟩:=ex (min (a+128) t.size);have n:min ((a:Int)+128) (t.size:Int)=(m:Int):=by omega
 have o:a≤m:=by omega
 have p:m≤t.size:=by omega
 have q:(a:Int)≤(m:Int):=by omega
 have r:(m:Int)≤(t.size:Int):=by omega
 have d:(t.extract a m).data.toList=(t.data.toList.drop a).take 128:=by
  simp only[ByteArray.data_extract,Array.toList_extract,List.extract_eq_take_drop];have u:t.data.toList.length=t.size:=by simp
  by_cases h:a+128≤t.size
  ·rw[show m-a=128 by omega]
  ·rw[List.take_of_length_le (by rw[List.length_drop];omega),List.take_of_length_le (by rw[List.length_drop];omega)]
 have f:=Hq (fun W=>Tl (t.extract a m) (by rw[ByteArray.size_extract];omega) W);rw[d]at f;clear d l c;go_enter Tryz.func293,Tryz.ntmps293
 go_wp2_with(go_at_call 292;(with_reducible refine(f.out _).mono ?_);rintro e v ⟨rfl,b⟩)
 go_ret;exact⟨rfl,b⟩
structure Wx (n:Nat) (w:World) (d:Lg.Dk) (A0 A:Option Addr) (c:Nat):Prop where
 dk:By w d A c
 dt:C4 0 w 9 A
 nw:A=A0∨C4 n w 9 A
theorem Wx.below {n:Nat}{w w':World}{d:Lg.Dk}{b A:Option Addr}{c:Nat}(h:Wx n w d b A c)(a:Bw w w'):Wx n w' d b A c:=⟨h.dk.below a,h.dt.below a,h.nw.imp id (fun k=>k.below a)⟩
theorem Wx.row {n:Nat}{w:World}{d:Lg.Dk}{a A:Option Addr}{c:Nat}(h:Wx n w d a A c){b:Nat}{cur:Array Value}{t:TypeId}{fr:Nat×Nat}(e:w.heap[b]? =some (.cells cur t fr))(f:t≠9)(cs:Array Value):Wx n (w.setRow b cs) d a A c:=
 ⟨⟨h.dt.Dj h.dk.secs e f cs,h.dk.small⟩,h.dt.row b cs,h.nw.imp id (fun k=>k.row b cs)⟩
theorem Wx.set {n:Nat}{w:World}{d:Lg.Dk}{a A:Option Addr}{c:Nat}(h:Wx n w d a A c){b:Nat}{cur:Array Value}{t:TypeId}{fr:Nat×Nat}(e:w.heap[b]? =some (.cells cur t fr))(f:t≠9)(j:Nat)(v:Value):Wx n (w.setCell ⟨b,j,none⟩ v) d a A c:=by
 rw[setCell_eq_setRow w b j cur t fr v e];exact h.row e f _
theorem Wx.put {n:Nat}{w w':World}{d b:Lg.Dk}{f A a:Option Addr}{c c':Nat}(h:Wx n w d f A c)(j:n≤w.heap.size)(l:By w' b a c')(g:a=A∨C4 w.heap.size w' 9 a)(i:Bw w w'):Wx n w' b f a c':=
 ⟨l,g.elim (fun e=>by rw[e];exact h.dt.below i) (fun k=>k.mono (Nat.zero_le _)),g.elim (fun e=>by rw[e];exact h.nw.imp id (fun k=>k.below i)) (fun k=>.inr (k.mono j))⟩
theorem Zv (d:Lg.Dk)(A:Option Addr)(c:Nat)(fr n en:Int)(b:ByteArray)(o:Lg.Dk×Lg.Lo×Int)(r:o=(d,⟨fr,n,en,en,b⟩,0))(w:World)(h:By w d A c):
 Cq 236 #[.agg #[.slice A d.sectors.length c,d.left,d.down],.agg #[fr,n,en,en,b]] w (Ft o A w):=by
 have t:=Hq (fun w' (s:Bw w w')=>show Ft o A w (.returned (.tuple #[.agg #[.slice A d.sectors.length c,d.left,d.down],.agg #[fr,n,en,en,b],()])) w' from by
  subst r;exact⟨A,c,rfl,⟨h.secs.below s,h.small⟩,.inl rfl,s⟩)
 clear r h;go_enter Tryz.func236,Tryz.ntmps236;go_upto_region 1 with fail;have i:=uW w #[.slice A d.sectors.length c,d.left,d.down] 28 #[fr,n,en,en,b] 30 #['s',(),false] 28 #[(),(),(),(),""] 30;obtain⟨z,e⟩:=Dr i;rw[← e]at i ⊢;clear e;have l:=Aa i.out.Ah;have m:en≤en:=Int.le_refl _;go_upto_region 2 with fail;clear l m;have j:=Hq i.out.drew;have p:=j.out.Ag;have q:=j.out.Ah;refine E4 (S:=(fun u=>u.heap[w.heap.size]? =some (.cells #[.slice A d.sectors.length c,d.left,d.down] 28 (0,0))∧u.heap[(w.heap.size+1)]? =some (.cells #[fr,n,en,en,b] 30 (0,0)))) (fun a=>?_) (by first|exact hSn|exact⟨p,q⟩);refine Q3 0 Bz ?_;refine Q3 1 Fp ?_;refine Bx 2 fun K f=>?_;refine Az (by rfl) ?_;refine sW #[.slice A d.sectors.length c,d.left,d.down] j.out.Ax ?_;have k:=Hq (j.out.row 2 #[.slice A d.sectors.length c,d.left,d.down] _ rfl);have x:=k.out.Ag;have y:=k.out.Ah;have hSn:=And.intro x y;refine Bl f (fun a=>?_) (by first|exact hSn|exact⟨p,q⟩);clear f K
 try simp only[Act.put]
 refine Bx 3 fun K f=>?_;refine Az (by rfl) ?_;refine sW #[fr,n,en,en,b] k.out.g3 ?_;have g:=Hq (k.out.row 3 #[fr,n,en,en,b] _ rfl)
 try clear hSn
 have hSn:=And.intro g.out.Ag g.out.Ah;refine Bl f (fun a=>?_) (by first|exact hSn|exact⟨p,q⟩);clear f K
 try simp only[Act.put]
 refine Au 4 ?_;refine wpAnyH_done Kr ?_ _;clear a hSn;go_wp2_with fail;refine bodyPost_ret (v:=.tuple #[.agg #[.slice A d.sectors.length c,d.left,d.down],.agg #[fr,n,en,en,b],()]) (Ez rfl _ _ rfl rfl (Ct g.out.Ax Bz Kr Kr) (Ct g.out.g3 Fp Kr Kr) rfl) rfl ?_;exact t.out _ g.out.below
theorem jS (d:Lg.Dk)(cc: -9223372036854775808≤d.left∧d.left≤9223372036854775807)(A:Option Addr)(c:Nat)(fr n en sf:Int)(t:ByteArray)(cd:sf<en)(b8:0≤sf)(ae:en≤1000000000)(_hn0: -1000000000≤n)(_hn1:n≤1000000000)(dp: -1000000000≤fr)(dq:fr≤1000000000)(ht:t.size≤1000000)(cf:en-(t.size:Int)=sf-sf%128)(w:World)(h:By w d A c)(hT:C4 0 w 9 A):
 Cq 236 #[.agg #[.slice A d.sectors.length c,d.left,d.down],.agg #[fr,n,en,sf,t]] w (Ft (Lg.Bo d ⟨fr,n,en,sf,t⟩) A w):=by
 have b9:¬ sf=en:=by omega
 have X:=Hq (fun d2 e (J:e≠0) hp=> @Lg.Si d d2 ⟨fr,n,en,sf,t⟩ e b9 J hp);have a6:=Hq (fun d2 hp=> @Lg.Uo d d2 ⟨fr,n,en,sf,t⟩ b9 hp);have HO:=Hq (fun A' c' w' x (hx:Lg.Bo d ⟨fr,n,en,sf,t⟩=x) (h1:Wx w.heap.size w' x.1 A A' c') (h3:Bw w w')=>show Ft (Lg.Bo d ⟨fr,n,en,sf,t⟩) A w (.returned (.tuple #[Cd x.1 A' c',Oc x.2.1,x.2.2])) w' from⟨A',c',by rw[hx],by rw[hx];exact h1.dk,h1.nw,h3⟩);have cg:=Hq (show Wx w.heap.size w d A A c from⟨h,hT,.inl rfl⟩);have T:Lg.Im ⟨fr,n,en,sf,t⟩=sf/128:=Lg.Al.first ⟨b8,Int.le_of_lt cd,cf⟩;have ch:=Lg.Ii t;have cj:0<t.size:=by omega
 obtain⟨C,hC⟩:=ex (Lg.Kc t);have ck:∀ k,k*128<t.size→C[k]? =some (Lg.Fy ((t.data.toList.drop (k*128)).take 128)):=by rw[hC];exact fun k hk=>Lg.nD t k hk
 obtain⟨all,ak⟩:=ex (Lg.Mx ⟨fr,n,en,sf,t⟩);have a8:all=if sf/128+(C.length:Int)<n then C++[Lg.Cs]else C:=by rw[ak,hC];unfold Lg.Mx;rw[T]
 rw[← ak]at X a6;rw[T]at X a6;rw[← hC]at ch;generalize Lg.Bo d ⟨fr,n,en,sf,t⟩=o at X a6 HO ⊢;generalize Ft o A w=Q at HO ⊢;obtain⟨m,hm⟩:=ex ((t.size-1)/128:Nat);have af:C.length=m+1:=by omega
 have cz:m*128<t.size:=by omega
 obtain⟨F,hF⟩:=ex (sf/128:Int);have dr:0≤F:=by omega
 have ds:F≤10000000:=by omega
 have cm:(⟨#[]⟩:ByteArray).size≤128:=by decide
 have al:=Hq (fun W=>show Cr 292 #[""] W (.string Lg.Cs) from by
  have h9:=Tl ⟨#[]⟩ cm W;rw[show Lg.Fy (⟨#[]⟩:ByteArray).data.toList=Lg.Cs from Lg.nE]at h9;exact h9)
 have ag:=Hq (fun W=>show Cr 290 #[.agg #[fr,n,en,sf,t]] W (.int .i64 F) from by
  have h9:=Tk fr n en sf t b8 (by omega) W;rw[← hF]at h9;exact h9)
 obtain⟨G,hG⟩:=ex (en/128:Int);have ba:=Hq (fun W=>show Cr 290 #[.agg #[fr,n,en,en,t]] W (.int .i64 G) from by
  have h9:=Tk fr n en en t (by omega) ae W;rw[← hG]at h9;exact h9)
 have bb:=Hq (fun(k:Nat) (hk:k≤m) W=>show Cr 293 #[t,.int .i64 (k:Int)] W (.string (all[k]?.getD ⟨#[]⟩)) from by
  have h9:=jR t ht k (by omega) W;have e:all[k]? =C[k]? :=by
   rw[a8]
   split
   ·exact List.getElem?_append_left (by omega)
   ·rfl
  rw[e,ck k (by omega)];exact h9)
 have Y:=Hq (show(F+(m:Int)+1<n→all.length=m+1+1∧all[m+1]?.getD ⟨#[]⟩=Lg.Cs)∧(¬ F+(m:Int)+1<n→all.length=m+1)from by
  constructor
  ·intro aa
   rw[a8,if_pos (by rw[af];omega)];refine⟨by rw[List.length_append,af];rfl,?_⟩;rw[List.getElem?_append_right (by omega),af]
   simp
  ·intro aa
   rw[a8,if_neg (by rw[af];omega),af])
 obtain⟨q,hq⟩:=ex (t.size-(en%128).toNat:Nat);have cn:(G-F)*128=(q:Int):=by omega
 have cp:q≤t.size:=by omega
 have au:=Hq (show Lg.Jz ⟨fr,n,en,sf,t⟩=⟨fr,n,en,en,t.extract q t.size⟩from by
  rw[hq];rfl)
 have dt:0≤G:=by omega
 have du:G≤10000000:=by omega
 have dv:m≤10000:=by omega
 have bc:=Hq (show IntKind.i64.wrap (G-F)=G-F from IntWalk.i64_in _ (by omega));have bd:=Hq (show IntKind.i64.wrap ((G-F)*128)=(q:Int)from by rw[cn];exact IntWalk.i64_in _ (by omega));have bf:=Hq (show min (q:Int) (t.size:Int)=(q:Int)from by omega);have bg:=Hq cp;have da:IntKind.i64.wrap ((t.size:Int)-1)=(t.size:Int)-1:=IntWalk.i64_in _ (by omega);have bh:IntKind.i64.wrap (((t.size:Int)-1).tdiv 128)=(m:Int):=by
  have e:((t.size:Int)-1).tdiv 128=(m:Int):=by
   rw[Int.tdiv_eq_ediv_of_nonneg (by omega)];omega
  rw[e];exact IntWalk.i64_in _ (by omega)
 rw[← hF]at X a6;have cq:¬ en≤sf:=by omega
 generalize Lg.Cs=z at al Y;have bj:=Hq cc;clear h hT cd b8 ae _hn0 _hn1 ht cf b9 T ch cj hC ck ak a8 hm af cz hF hG hq cn cp cm cc;go_enter Tryz.func236,Tryz.ntmps236;go_upto_region 1 with fail;have H0:=uW w #[.slice A d.sectors.length c,d.left,d.down] 28 #[fr,n,en,sf,t] 30 #['s',(),false] 28 #[(),(),(),(),""] 30;obtain⟨W0,cr⟩:=Dr H0;rw[← cr]at H0 ⊢;clear cr;have bk:=Aa H0.out.Ah;go_upto_region 4 with fail;clear bk da bh cq;have K0:=H0.out.drew;have XL:=K0.Ah;have bh:IntKind.i64.wrap (F+(m:Int))=F+(m:Int):=IntWalk.i64_in _ (by omega);have db:IntKind.i64.wrap (F+(m:Int)+1)=F+(m:Int)+1:=IntWalk.i64_in _ (by omega);refine E4 (S:=(fun u=>u.heap[w.heap.size+1]? =some (.cells #[fr,n,en,sf,t] 30 (0,0)))) (fun a=>?_);refine Q3 0 Fp ?_;refine Au 2 ?_;refine Au 5 ?_;refine Au 6 ?_;refine Bx 1 fun K j=>?_
 go_simp
 refine(ag.out _).mono ?_;rintro e w3 ⟨rfl,U⟩;have hSn:=Ac XL U;refine Bl j (fun a=>?_);clear j K;refine Au 3 ?_;refine Au 4 ?_;refine Au 7 ?_;refine wpAnyH_done Kr ?_ _;clear a hSn;have H1:=Hq (K0.step U);clear U K0 XL H0;have L:=Hq (cg.out.below H1.out.below);go_upto_if 33 with fail;clear bh db
 go_cut [7] (fun s7 wc=>s7= .int .i64 (m:Int)∧∃ (d2:Lg.Dk) (A2:Option Addr) (c2:Nat),Lg.Ej (fr+F) all all.length d=Lg.Ej (fr+F) all (m+1) d2∧Dm w.heap.size w [(#[.slice A2 d2.sectors.length c2,d2.left,d2.down],28),(#[fr,n,en,sf,t],30),(#['s',(),false],28),(#[(),(),(),(),""],30)] wc∧Wx w.heap.size wc d2 A A2 c2∧(-9223372036854775808≤d2.left∧d2.left≤9223372036854775807))
 case first=>
  by_cases aa:F+(m:Int)+1<n
  ·obtain⟨hlen,hz⟩:=Y.out.1 aa
   have av:= @Lg.Ly d (fr+F+(m:Int)+1) z bj.out;have I:=Hq (fun W hW=>Nw d bj.out A c (fr+F+(m:Int)+1) z W hW);rcases hx:Lg.Cl d (fr+F+(m:Int)+1) z with⟨d3,V⟩;have ha:fr+F+((m+1:Nat):Int)=fr+F+(m:Int)+1:=(by omega);have O:=Hq (fun(J:V=0)=>Lg.Pp (base:=fr+F) (all:=all) (k:=m+1) (d:=d) (d2:=d3) (by rw[hz,ha,hx,J]));have H:=Hq (fun(J:V≠0)=>Lg.L0 (base:=fr+F) (all:=all) (k:=m+1) (d:=d) (d2:=d3) J (by rw[hz,ha,hx]));rw[hx]at I av;rw[← hlen]at O H;simp only at av;have bl:=Hq av;clear hx av ha hz hlen;have bm:IntKind.i64.wrap (fr+F)=fr+F:=IntWalk.i64_in _ (by omega);have bn:IntKind.i64.wrap (fr+F+(m:Int))=fr+F+(m:Int):=IntWalk.i64_in _ (by omega);have dc:IntKind.i64.wrap (fr+F+(m:Int)+1)=fr+F+(m:Int)+1:=IntWalk.i64_in _ (by omega);go_upto_region 5 with fail
   go_cut [8,9] (fun p q wc=>∃ (g:Nat) (s:Option Addr) (c3:Nat),p= .pointer (some ⟨g,0,none⟩)∧q= .int .i64 V∧Dm w.heap.size w [(#[.slice A d.sectors.length c,d.left,d.down],28),(#[fr,n,en,sf,t],30),(#['s',(),false],28),(#[(),(),(),(),""],30)] wc∧w.heap.size+4≤g∧wc.heap[g]? =some (.cells #[.slice s d3.sectors.length c3,d3.left,d3.down] 28 (0,0))∧Wx w.heap.size wc d3 A s c3)
   case first=>
    have f:=H1;have r:=L;clear H1 L O H HO X a6 bb Y ba au bc bd bf bg;have f:=Hq f.out.drew;have r:=Hq (r.out.below (Below.refl _ w3).drew);refine E4 (S:=(fun u=>u.heap[w.heap.size]? =some (.cells #[.slice A d.sectors.length c,d.left,d.down] 28 (0,0))∧u.heap[w.heap.size+1]? =some (.cells #[fr,n,en,sf,t] 30 (0,0)))) (fun a=>?_) ⟨f.out.Ag,f.out.Ah⟩;refine Q3 0 Bz ?_;refine Au 1 ?_;refine Au 2 ?_;refine Q3 3 Fp ?_;refine Au 6 ?_;refine wpAnyH_ready (rs:=[4,14]) Kr (by simp) ?_;refine(AllReadyH.cons (o:={dst:=some 39,op:=_,type:=_,pos:=_,after:=_,guard:=_}) rfl (fun K j=>?_) (AllReadyH.cons (o:={dst:=some 8,op:=_,type:=_,pos:=_,after:=_,guard:=_}) rfl (fun K j=>?_) AllReadyH.nil))
    ·
     go_simp
     refine(ag.out _).mono ?_;rintro e wf ⟨rfl,b⟩;have r:=Hq (r.out.below b);have f:=Hq (f.out.step b);clear b;(try clear hSn);have hSn:=And.intro f.out.Ag f.out.Ah;refine Bl j (fun a=>?_);clear j K;refine Au 5 ?_;refine Au 7 ?_;refine Au 8 ?_;refine wpAnyH_ready (rs:=[9,14]) Kr (by simp) ?_;refine(AllReadyH.cons (o:={dst:=some 44,op:=_,type:=_,pos:=_,after:=_,guard:=_}) rfl (fun K j=>?_) (AllReadyH.cons (o:={dst:=some 8,op:=_,type:=_,pos:=_,after:=_,guard:=_}) rfl (fun K j=>?_) AllReadyH.nil))
     ·
      go_simp
      refine(al.out _).mono ?_;rintro e N ⟨rfl,b⟩;have r:=Hq (r.out.below b);have f:=Hq (f.out.step b);clear b;(try clear hSn);have hSn:=And.intro f.out.Ag f.out.Ah;refine Bl j (fun a=>?_);clear j K;refine wpAnyH_ready (rs:=[10,14]) Kr (by simp) ?_;refine(AllReadyH.cons (o:={dst:=some 45,op:=_,type:=_,pos:=_,after:=_,guard:=_}) rfl (fun K j=>?_) (AllReadyH.cons (o:={dst:=some 8,op:=_,type:=_,pos:=_,after:=_,guard:=_}) rfl (fun K j=>?_) AllReadyH.nil))
      ·
       go_simp
       refine(I.out _ r.out.dk).mono ?_;rintro e ww ⟨s,c3,rfl,D,E,b⟩;have r:=Hq (r.out.put (by have:=f.out.lt (i:=3) (by simp);omega) D E b);have f:=Hq (f.out.step b);clear b D E;(try clear hSn);have hSn:=And.intro f.out.Ag f.out.Ah;refine Bl j (fun a=>?_);clear j K;refine Au 11 ?_;refine Au 12 ?_;refine Au 13 ?_;refine Bx 14 fun K j=>?_
       go_simp
       have B:w.heap.size+4≤ww.heap.size:=f.out.lt (i:=3) (by simp);have r:=Hq (r.out.below (Ad ww (.cells #['s',(),false] 28)));have f:=Hq (f.out.step (Ad ww (.cells #['s',(),false] 28)));have l:=Hq (heap_alloc_new ww (.cells #['s',(),false] 28));(try clear hSn);have hSn:=And.intro f.out.Ag f.out.Ah;refine Bl j (fun a=>?_);clear j K;refine Bx 15 fun K j=>?_;refine Az (by rfl) ?_;refine sW #[.slice s d3.sectors.length c3,d3.left,d3.down] l.out ?_;have r:=Hq (r.out.row l.out (by decide) #[.slice s d3.sectors.length c3,d3.left,d3.down]);have f:=Hq (f.out.under (M:=ww.heap.size) (by show w.heap.size+4≤_;exact B) (below_setRow (Below.refl ww.heap.size (ww.alloc (.cells #['s',(),false] 28))) (Nat.le_refl ww.heap.size) #[.slice s d3.sectors.length c3,d3.left,d3.down]));have l:=Hq (show((ww.alloc (.cells #['s',(),false] 28)).setRow ww.heap.size #[.slice s d3.sectors.length c3,d3.left,d3.down]).heap[ww.heap.size]? =some (.cells #[.slice s d3.sectors.length c3,d3.left,d3.down] 28 (0,0))from setRow_heap _ _ _ _ _ _ l.out)
       (try clear hSn);have hSn:=And.intro f.out.Ag f.out.Ah
       refine Bl j (fun a=>?_);clear j K
       try simp only[Act.put]
       refine Au 16 ?_;refine wpAnyH_done Kr ?_ _;clear a hSn;go_wp2_with fail;go_meet
       case rel=>exact⟨_,s,c3,rfl,rfl,f.out,B,l.out,r.out⟩
      ·
       go_simp
       have B:w.heap.size+4≤N.heap.size:=f.out.lt (i:=3) (by simp);have r:=Hq (r.out.below (Ad N (.cells #['s',(),false] 28)));have f:=Hq (f.out.step (Ad N (.cells #['s',(),false] 28)));have l:=Hq (heap_alloc_new N (.cells #['s',(),false] 28));(try clear hSn);have hSn:=And.intro f.out.Ag f.out.Ah;refine Bl j (fun a=>?_);clear j K;refine Bx 10 fun K j=>?_
       go_simp
       refine(I.out _ r.out.dk).mono ?_;rintro e ww ⟨s,c3,rfl,D,E,b⟩;have r:=Hq (r.out.put (by have:=f.out.lt (i:=3) (by simp);omega) D E b);have f:=Hq (f.out.step b);have l:=Hq (Ac l.out b);clear b D E;(try clear hSn);have hSn:=And.intro f.out.Ag f.out.Ah;refine Bl j (fun a=>?_);clear j K;refine Au 11 ?_;refine Au 12 ?_;refine Au 13 ?_;refine Bx 15 fun K j=>?_;refine Az (by rfl) ?_;refine sW #[.slice s d3.sectors.length c3,d3.left,d3.down] l.out ?_;have r:=Hq (r.out.row l.out (by decide) #[.slice s d3.sectors.length c3,d3.left,d3.down]);have f:=Hq (f.out.under (M:=N.heap.size) (by show w.heap.size+4≤_;exact B) (below_setRow (Below.refl N.heap.size ww) (Nat.le_refl N.heap.size) #[.slice s d3.sectors.length c3,d3.left,d3.down]));have l:=Hq (show(ww.setRow N.heap.size #[.slice s d3.sectors.length c3,d3.left,d3.down]).heap[N.heap.size]? =some (.cells #[.slice s d3.sectors.length c3,d3.left,d3.down] 28 (0,0))from setRow_heap _ _ _ _ _ _ l.out)
       (try clear hSn);have hSn:=And.intro f.out.Ag f.out.Ah
       refine Bl j (fun a=>?_);clear j K
       try simp only[Act.put]
       refine Au 16 ?_;refine wpAnyH_done Kr ?_ _;clear a hSn;go_wp2_with fail;go_meet
       case rel=>exact⟨_,s,c3,rfl,rfl,f.out,B,l.out,r.out⟩
     ·
      go_simp
      have B:w.heap.size+4≤wf.heap.size:=f.out.lt (i:=3) (by simp);have r:=Hq (r.out.below (Ad wf (.cells #['s',(),false] 28)));have f:=Hq (f.out.step (Ad wf (.cells #['s',(),false] 28)));have l:=Hq (heap_alloc_new wf (.cells #['s',(),false] 28));(try clear hSn);have hSn:=And.intro f.out.Ag f.out.Ah;refine Bl j (fun a=>?_);clear j K;refine Bx 9 fun K j=>?_
      go_simp
      refine(al.out _).mono ?_;rintro e N ⟨rfl,b⟩;have r:=Hq (r.out.below b);have f:=Hq (f.out.step b);have l:=Hq (Ac l.out b);clear b;(try clear hSn);have hSn:=And.intro f.out.Ag f.out.Ah;refine Bl j (fun a=>?_);clear j K;refine Bx 10 fun K j=>?_
      go_simp
      refine(I.out _ r.out.dk).mono ?_;rintro e ww ⟨s,c3,rfl,D,E,b⟩;have r:=Hq (r.out.put (by have:=f.out.lt (i:=3) (by simp);omega) D E b);have f:=Hq (f.out.step b);have l:=Hq (Ac l.out b);clear b D E;(try clear hSn);have hSn:=And.intro f.out.Ag f.out.Ah;refine Bl j (fun a=>?_);clear j K;refine Au 11 ?_;refine Au 12 ?_;refine Au 13 ?_;refine Bx 15 fun K j=>?_;refine Az (by rfl) ?_;refine sW #[.slice s d3.sectors.length c3,d3.left,d3.down] l.out ?_;have r:=Hq (r.out.row l.out (by decide) #[.slice s d3.sectors.length c3,d3.left,d3.down]);have f:=Hq (f.out.under (M:=wf.heap.size) (by show w.heap.size+4≤_;exact B) (below_setRow (Below.refl wf.heap.size ww) (Nat.le_refl wf.heap.size) #[.slice s d3.sectors.length c3,d3.left,d3.down]));have l:=Hq (show(ww.setRow wf.heap.size #[.slice s d3.sectors.length c3,d3.left,d3.down]).heap[wf.heap.size]? =some (.cells #[.slice s d3.sectors.length c3,d3.left,d3.down] 28 (0,0))from setRow_heap _ _ _ _ _ _ l.out)
      (try clear hSn);have hSn:=And.intro f.out.Ag f.out.Ah
      refine Bl j (fun a=>?_);clear j K
      try simp only[Act.put]
      refine Au 16 ?_;refine wpAnyH_done Kr ?_ _;clear a hSn;go_wp2_with fail;go_meet
      case rel=>exact⟨_,s,c3,rfl,rfl,f.out,B,l.out,r.out⟩
    ·
     go_simp
     have B:w.heap.size+4≤w3.drew.heap.size:=f.out.lt (i:=3) (by simp);have r:=Hq (r.out.below (Ad w3.drew (.cells #['s',(),false] 28)));have f:=Hq (f.out.step (Ad w3.drew (.cells #['s',(),false] 28)));have l:=Hq (heap_alloc_new w3.drew (.cells #['s',(),false] 28));(try clear hSn);have hSn:=And.intro f.out.Ag f.out.Ah;refine Bl j (fun a=>?_);clear j K;refine Bx 4 fun K j=>?_
     go_simp
     refine(ag.out _).mono ?_;rintro e wf ⟨rfl,b⟩;have r:=Hq (r.out.below b);have f:=Hq (f.out.step b);have l:=Hq (Ac l.out b);clear b;(try clear hSn);have hSn:=And.intro f.out.Ag f.out.Ah;refine Bl j (fun a=>?_);clear j K;refine Au 5 ?_;refine Au 7 ?_;refine Au 8 ?_;refine Bx 9 fun K j=>?_
     go_simp
     refine(al.out _).mono ?_;rintro e N ⟨rfl,b⟩;have r:=Hq (r.out.below b);have f:=Hq (f.out.step b);have l:=Hq (Ac l.out b);clear b;(try clear hSn);have hSn:=And.intro f.out.Ag f.out.Ah;refine Bl j (fun a=>?_);clear j K;refine Bx 10 fun K j=>?_
     go_simp
     refine(I.out _ r.out.dk).mono ?_;rintro e ww ⟨s,c3,rfl,D,E,b⟩;have r:=Hq (r.out.put (by have:=f.out.lt (i:=3) (by simp);omega) D E b);have f:=Hq (f.out.step b);have l:=Hq (Ac l.out b);clear b D E;(try clear hSn);have hSn:=And.intro f.out.Ag f.out.Ah;refine Bl j (fun a=>?_);clear j K;refine Au 11 ?_;refine Au 12 ?_;refine Au 13 ?_;refine Bx 15 fun K j=>?_;refine Az (by rfl) ?_;refine sW #[.slice s d3.sectors.length c3,d3.left,d3.down] l.out ?_;have r:=Hq (r.out.row l.out (by decide) #[.slice s d3.sectors.length c3,d3.left,d3.down]);have f:=Hq (f.out.under (M:=w3.drew.heap.size) (by show w.heap.size+4≤_;exact B) (below_setRow (Below.refl w3.drew.heap.size ww) (Nat.le_refl w3.drew.heap.size) #[.slice s d3.sectors.length c3,d3.left,d3.down]));have l:=Hq (show(ww.setRow w3.drew.heap.size #[.slice s d3.sectors.length c3,d3.left,d3.down]).heap[w3.drew.heap.size]? =some (.cells #[.slice s d3.sectors.length c3,d3.left,d3.down] 28 (0,0))from setRow_heap _ _ _ _ _ _ l.out)
     (try clear hSn);have hSn:=And.intro f.out.Ag f.out.Ah
     refine Bl j (fun a=>?_);clear j K
     try simp only[Act.put]
     refine Au 16 ?_;refine wpAnyH_done Kr ?_ _;clear a hSn;go_wp2_with fail;go_meet
     case rel=>exact⟨_,s,c3,rfl,rfl,f.out,B,l.out,r.out⟩
   case rest=>
    obtain⟨g,s,c3,rfl,rfl,U,B,an,ao⟩:=hcut;obtain⟨wb,rfl⟩:=ex wc;have P:=Hq U;have ah:=Hq an;have ai:=Hq ao;clear U an ao H1 L I bm bn dc
    by_cases J:V=0
    ·have bo:=Hq (O.out J)
     subst J;clear O H
     go_wp2_with(first
      |with_reducible refine lL ah.out Bz ?_
      |with_reducible refine lS #[.slice s d3.sectors.length c3,d3.left,d3.down] P.out.Ag ?_)
     go_meet
     case rel=>exact⟨rfl,d3,s,c3,bo.out,by have h:=P.out.row 0 #[.slice s d3.sectors.length c3,d3.left,d3.down] _ rfl;simpa using h,ai.out.row P.out.Ag (by decide) _,bl.out⟩
    ·have Z:=Hq (X.out d3 V J (H.out J))
     have ae:(V==0)=false:=(by simpa using J);have bp:(V != 0)=true:=(by simpa using J);clear O H J;go_upto_region 7 with fail;clear ae bp;have HD:=Hq P.out.drew;have X0:=Ac ah.out (Below.refl _ wb).drew;have Y0:=HD.out.Ah;refine E4 (S:=(fun u=>u.heap[g]? =some (.cells #[.slice s d3.sectors.length c3,d3.left,d3.down] 28 (0,0))∧u.heap[(w.heap.size+1)]? =some (.cells #[fr,n,en,sf,t] 30 (0,0)))) (fun a=>?_) (by first|exact hSn|exact⟨X0,Y0⟩);refine Q3 0 Bz ?_;refine Q3 1 Fp ?_;refine Au 2 ?_;refine Bx 3 fun K j=>?_;refine Az (by rfl) ?_;refine sW #[.slice s d3.sectors.length c3,d3.left,d3.down] HD.out.Ax ?_;have HE:=Hq (HD.out.row 2 #[.slice s d3.sectors.length c3,d3.left,d3.down] _ rfl);have X1:=((Aj _ (w.heap.size+2) #[.slice s d3.sectors.length c3,d3.left,d3.down] g (by omega)).trans X0);have Y1:=HE.out.Ah;have hSn:=And.intro X1 Y1;refine Bl j (fun a=>?_) (by first|exact hSn|exact⟨X0,Y0⟩);clear j K
     try simp only[Act.put]
     refine Bx 4 fun K j=>?_;refine Az (by rfl) ?_;refine sW #[fr,n,en,sf,t] HE.out.g3 ?_;have l:=Hq (HE.out.row 3 #[fr,n,en,sf,t] _ rfl)
     try clear hSn
     have hSn:=And.intro ((Aj _ (w.heap.size+3) #[fr,n,en,sf,t] g (by omega)).trans X1) l.out.Ah;refine Bl j (fun a=>?_) (by first|exact hSn|exact⟨X0,Y0⟩);clear j K
     try simp only[Act.put]
     refine Au 5 ?_;refine wpAnyH_done Kr ?_ _;clear a hSn;go_wp2_with fail;refine bodyPost_ret (v:=.tuple #[.agg #[.slice s d3.sectors.length c3,d3.left,d3.down],.agg #[fr,n,en,sf,t],V]) (Ez rfl _ _ rfl rfl (Ct l.out.Ax Bz Kr Kr) (Ct l.out.g3 Fp Kr Kr) rfl) rfl ?_;have k1:=ai.out.below (Below.refl _ wb).drew;have k2:=k1.row HD.out.Ax (by decide) #[.slice s d3.sectors.length c3,d3.left,d3.down];exact HO.out s c3 _ (d3,⟨fr,n,en,sf,t⟩,V) Z.out (k2.row HE.out.g3 (by decide) _) l.out.below
  ·have hlen:=Y.out.2 aa
   go_wp2_with fail;go_meet
   case rel=>exact⟨rfl,d,A,c,by rw[hlen],H1.out,L.out,bj.out⟩
 case rest=>
  obtain⟨rfl,d0,A0,c0,aq,ay,az,b0⟩:=hcut;obtain⟨wa,rfl⟩:=ex wc;have ar:=Hq aq;have b1:=Hq ay;have b2:=Hq az;have b3:=Hq b0;clear aq ay az b0 H1 L Y al;go_wp2_with fail
  go_loopw [10] (fun i wr=>∃ (x:Int) (d2:Lg.Dk) (A2:Option Addr) (c2:Nat),i= .int .i64 x∧-1≤x∧x≤(m:Int)∧Lg.Ej (fr+F) all all.length d=Lg.Ej (fr+F) all (x+1).toNat d2∧Dm w.heap.size w [(#[.slice A2 d2.sectors.length c2,d2.left,d2.down],28),(#[fr,n,en,sf,t],30),(#['s',(),false],28),(#[(),(),(),(),""],30)] wr∧Wx w.heap.size wr d2 A A2 c2∧(-9223372036854775808≤d2.left∧d2.left≤9223372036854775807)) (fun i _=>(intOf i+1).toNat)
  case atStart=>exact⟨(m:Int),d0,A0,c0,rfl,by omega,by omega,by rw[show((m:Int)+1).toNat=m+1 by omega];exact ar.out,b1.out,b2.out,b3.out⟩
  case round=>
   obtain⟨x,d2,A2,c2,rfl,dd,de,b4,ct,cu,b5⟩:=hrel;have a1:=Hq b4;have a7:=Hq ct;have L:=Hq cu;have b6:=Hq b5;clear b4 ct cu b5 ar b1 b2 b3
   by_cases h0:x= -1
   ·subst h0
    have Z:=Hq (a6.out d2 (a1.out.trans rfl));clear dd de
    go_upto_region 17 with(first
     |with_reducible refine lL a7.out.Ah Fp ?_
     |with_reducible refine sN #[fr,n,en,sf,t] ?_)
    have HM:=Hq (heap_alloc_new wr (.cells #[fr,n,en,sf,t] 30));have bq:w.heap.size+4≤wr.heap.size:=a7.out.lt (i:=3) (by simp);have aw:=Hq (a7.out.step (Ad wr (.cells #[fr,n,en,sf,t] 30)));have br:=Hq (L.out.below (Ad wr (.cells #[fr,n,en,sf,t] 30)));obtain⟨R,bs⟩:=ex wr.heap.size;obtain⟨W1,bt⟩:=ex (wr.alloc (.cells #[fr,n,en,sf,t] 30));rw[← bs]at HM bq;rw[← bt]at HM aw br;rw[← bt,← bs];clear bs bt a7 L;have bk:=Aa aw.out.Ah;have bu:=Aa HM.out;have bw:=Ao HM.out;go_upto_region 18 with fail;have bx:=Hq (show(W1.setCell ⟨R,3,none⟩ (.int .i64 en)).heap[R]? =some (.cells #[fr,n,en,en,t] 30 (0,0))from by have h:=Bs 3 HM.out (.int .i64 en);simpa using h);have bz:=Hq (aw.out.under (M:=R) (by show w.heap.size+4≤R;exact bq) ((Below.refl R W1).setCell (p:=⟨R,3,none⟩) (Nat.le_refl R) (.int .i64 en)));have c6:=Hq (br.out.set HM.out (by decide) 3 (.int .i64 en));obtain⟨W2,c7⟩:=ex (W1.setCell ⟨R,3,none⟩ (.int .i64 en));rw[← c7]at bx bz c6;rw[← c7];clear c7 bk bu bw HM aw br;have f:=Hq bz.out.drew;have r:=Hq (c6.out.below (Below.refl _ W2).drew);have l:=Hq (Ac bx.out (Below.refl _ W2).drew);clear bx bz c6;have df:=bc.out;have dh:=bd.out;have di:=bf.out;have dj:(q:Int)≤(t.size:Int):=(by have:=bg.out;omega);have dm:(0:Int)≤(q:Int):=(by omega);refine Ig (S:=(fun u=>u.heap[w.heap.size+1]? =some (.cells #[fr,n,en,sf,t] 30 (0,0))∧u.heap[R]? =some (.cells #[fr,n,en,en,t] 30 (0,0)))) 14 Kr ?_ (fun a=>?_)
    ·first|exact hSn|exact⟨f.out.Ah,l.out⟩
    refine Xj 0 [14] ?_;refine Xj 1 [14] ?_;refine tA 2 [14] Fp ?_;refine tA 4 [14] Fp ?_;refine Xj 8 [14] ?_;refine Xj 9 [14] ?_;refine Xj 10 [14] ?_;refine Ce (rs:=[3]) Kr (by simp) ?_;refine Bc.cons (o:={dst:=some 88,op:=_,type:=_,pos:=_,after:=_,guard:=_}) rfl (fun K j=>?_) ?_
    rotate_left
    ·exact Bc.nil
    go_simp
    refine(ba.out _).mono ?_;rintro e wg ⟨rfl,b⟩;have r:=Hq (r.out.below b);have f:=Hq (f.out.step b);have l:=Hq (Ac l.out b);clear b;(try clear hSn);have hSn:=And.intro f.out.Ah l.out;refine Bl j (fun a=>?_) (by first|exact hSn|exact⟨f.out.Ah,l.out⟩);clear j K;refine Ce (rs:=[5]) Kr (by simp) ?_;refine Bc.cons (o:={dst:=some 90,op:=_,type:=_,pos:=_,after:=_,guard:=_}) rfl (fun K j=>?_) ?_
    rotate_left
    ·exact Bc.nil
    go_simp
    refine(ag.out _).mono ?_;rintro e wh ⟨rfl,b⟩;have r:=Hq (r.out.below b);have f:=Hq (f.out.step b);have l:=Hq (Ac l.out b);clear b;(try clear hSn);have hSn:=And.intro f.out.Ah l.out;have bu:=Aa l.out;have bw:=Ao l.out;refine Bl j (fun a=>?_) (by first|exact hSn|exact⟨f.out.Ah,l.out⟩);clear j K;refine Xj 6 [14] ?_;refine Xj 7 [14] ?_;refine Xj 11 [14] ?_;refine Xj 12 [14] ?_;refine Xj 13 [14] ?_;refine Ce (rs:=[14]) Kr (by simp) ?_;refine Bc.last (o:={dst:=none,op:=_,type:=_,pos:=_,after:=_,guard:=_}) rfl Kr (fun K j=>?_) ?_
    rotate_left
    ·exact Bc.nil
    go_simp
    have c8:=Hq (show(wh.setCell ⟨R,4,none⟩ (.string (t.extract q t.size))).heap[R]? =some (.cells #[fr,n,en,en,.string (t.extract q t.size)] 30 (0,0))from by have h:=Bs 4 l.out (.string (t.extract q t.size));simpa using h);have cv:=Hq (f.out.under (M:=R) (by show w.heap.size+4≤R;exact bq) ((Below.refl R wh).setCell (p:=⟨R,4,none⟩) (Nat.le_refl R) (.string (t.extract q t.size))));have cw:=Hq (r.out.set l.out (by decide) 4 (.string (t.extract q t.size)));refine j.out _ _ ?_;clear j K
    try simp only[Act.put,pS]
    refine Ie Kr ?_ _
    (try clear a)
    clear hSn bu bw l f r df dh di dj dm;obtain⟨W3,ca⟩:=ex (wh.setCell ⟨R,4,none⟩ (.string (t.extract q t.size)));rw[← ca]at c8 cv cw;rw[← ca];clear ca;obtain⟨aj,b7⟩:=ex (t.extract q t.size);rw[← b7]at c8 au;clear b7;go_upto_region 19 with fail;have HD:=Hq cv.out.drew;have X0:=HD.out.Ag;have Y0:=Ac c8.out (Below.refl _ W3).drew;refine E4 (S:=(fun u=>u.heap[w.heap.size]? =some (.cells #[.slice A2 d2.sectors.length c2,d2.left,d2.down] 28 (0,0))∧u.heap[R]? =some (.cells #[fr,n,en,en,aj] 30 (0,0)))) (fun a=>?_) (by first|exact hSn|exact⟨X0,Y0⟩);refine Q3 0 Bz ?_;refine Q3 1 Fp ?_;refine Bx 2 fun K j=>?_;refine Az (by rfl) ?_;refine sW #[.slice A2 d2.sectors.length c2,d2.left,d2.down] HD.out.Ax ?_;have HE:=Hq (HD.out.row 2 #[.slice A2 d2.sectors.length c2,d2.left,d2.down] _ rfl);have X1:=HE.out.Ag;have Y1:=((Aj _ (w.heap.size+2) #[.slice A2 d2.sectors.length c2,d2.left,d2.down] R (by omega)).trans Y0);have hSn:=And.intro X1 Y1;refine Bl j (fun a=>?_) (by first|exact hSn|exact⟨X0,Y0⟩);clear j K
    try simp only[Act.put]
    refine Bx 3 fun K j=>?_;refine Az (by rfl) ?_;refine sW #[fr,n,en,en,aj] HE.out.g3 ?_;have l:=Hq (HE.out.row 3 #[fr,n,en,en,aj] _ rfl)
    try clear hSn
    have hSn:=And.intro l.out.Ag ((Aj _ (w.heap.size+3) #[fr,n,en,en,aj] R (by omega)).trans Y1);refine Bl j (fun a=>?_) (by first|exact hSn|exact⟨X0,Y0⟩);clear j K
    try simp only[Act.put]
    refine Au 4 ?_;refine wpAnyH_done Kr ?_ _;clear a hSn;go_wp2_with fail;refine bodyPost_ret (v:=.tuple #[.agg #[.slice A2 d2.sectors.length c2,d2.left,d2.down],.agg #[fr,n,en,en,aj],()]) (Ez rfl _ _ rfl rfl (Ct l.out.Ax Bz Kr Kr) (Ct l.out.g3 Fp Kr Kr) rfl) rfl ?_;have k1:=cw.out.below (Below.refl _ W3).drew;have k2:=k1.row HD.out.Ax (by decide) #[.slice A2 d2.sectors.length c2,d2.left,d2.down];exact HO.out A2 c2 _ (d2,⟨fr,n,en,en,aj⟩,0) (Z.out.trans (by rw[au.out])) (k2.row HE.out.g3 (by decide) _) l.out.below
   ·obtain⟨k,rfl⟩:=Int.eq_ofNat_of_zero_le (show 0≤x by omega)
    have dn:k≤m:=(by omega);have dw:(0:Int)≤(k:Int):=(by omega);rw[show((k:Int)+1).toNat=k+1 by omega]at a1;have ax:=Hq (fun W=>bb.out k dn W);generalize hy:all[k]?.getD ⟨#[]⟩=y at ax;have I:=Hq (fun W hW=>Nw d2 b6.out A2 c2 (fr+F+(k:Int)) y W hW);have ad:= @Lg.Ly d2 (fr+F+(k:Int)) y b6.out;rcases hx:Lg.Cl d2 (fr+F+(k:Int)) y with⟨d3,V⟩;have O:=Hq (fun(J:V=0)=>Lg.Pp (base:=fr+F) (all:=all) (k:=k) (d:=d2) (d2:=d3) (by rw[hy,hx,J]));have H:=Hq (fun(J:V≠0)=>Lg.L0 (base:=fr+F) (all:=all) (k:=k) (d:=d2) (d2:=d3) J (by rw[hy,hx]));rw[hx]at I ad;simp only at ad;have bl:=Hq ad;clear hx ad h0 hy;have bm:IntKind.i64.wrap (fr+F)=fr+F:=IntWalk.i64_in _ (by omega);have bn:IntKind.i64.wrap (fr+F+(k:Int))=fr+F+(k:Int):=IntWalk.i64_in _ (by omega);go_upto_region 12 with fail
    go_cut [11,12] (fun p q wc=>∃ (g:Nat) (s:Option Addr) (c3:Nat),p= .pointer (some ⟨g,0,none⟩)∧q= .int .i64 V∧Dm w.heap.size w [(#[.slice A2 d2.sectors.length c2,d2.left,d2.down],28),(#[fr,n,en,sf,t],30),(#['s',(),false],28),(#[(),(),(),(),""],30)] wc∧w.heap.size+4≤g∧wc.heap[g]? =some (.cells #[.slice s d3.sectors.length c3,d3.left,d3.down] 28 (0,0))∧Wx w.heap.size wc d3 A s c3)
    case first=>
     have f:=a7;have r:=L;clear a7 L O H HO X a6 bb ba au bc bd bf bg a1;have f:=Hq f.out.drew;have r:=Hq (r.out.below (Below.refl _ wr).drew);refine E4 (S:=(fun u=>u.heap[w.heap.size]? =some (.cells #[.slice A2 d2.sectors.length c2,d2.left,d2.down] 28 (0,0))∧u.heap[w.heap.size+1]? =some (.cells #[fr,n,en,sf,t] 30 (0,0)))) (fun a=>?_) ⟨f.out.Ag,f.out.Ah⟩;refine Q3 0 Bz ?_;refine Au 1 ?_;refine Au 2 ?_;refine Q3 3 Fp ?_;refine Au 6 ?_;refine Au 8 ?_;refine Au 9 ?_;refine Au 10 ?_;refine wpAnyH_ready (rs:=[4,16]) Kr (by simp) ?_;refine(AllReadyH.cons (o:={dst:=some 64,op:=_,type:=_,pos:=_,after:=_,guard:=_}) rfl (fun K j=>?_) (AllReadyH.cons (o:={dst:=some 11,op:=_,type:=_,pos:=_,after:=_,guard:=_}) rfl (fun K j=>?_) AllReadyH.nil))
     ·
      go_simp
      refine(ag.out _).mono ?_;rintro e wf ⟨rfl,b⟩;have r:=Hq (r.out.below b);have f:=Hq (f.out.step b);clear b;(try clear hSn);have hSn:=And.intro f.out.Ag f.out.Ah;refine Bl j (fun a=>?_);clear j K;refine Au 5 ?_;refine Au 7 ?_;refine wpAnyH_ready (rs:=[11,16]) Kr (by simp) ?_;refine(AllReadyH.cons (o:={dst:=some 71,op:=_,type:=_,pos:=_,after:=_,guard:=_}) rfl (fun K j=>?_) (AllReadyH.cons (o:={dst:=some 11,op:=_,type:=_,pos:=_,after:=_,guard:=_}) rfl (fun K j=>?_) AllReadyH.nil))
      ·
       go_simp
       refine(ax.out _).mono ?_;rintro e N ⟨rfl,b⟩;have r:=Hq (r.out.below b);have f:=Hq (f.out.step b);clear b;(try clear hSn);have hSn:=And.intro f.out.Ag f.out.Ah;refine Bl j (fun a=>?_);clear j K;refine wpAnyH_ready (rs:=[12,16]) Kr (by simp) ?_;refine(AllReadyH.cons (o:={dst:=some 72,op:=_,type:=_,pos:=_,after:=_,guard:=_}) rfl (fun K j=>?_) (AllReadyH.cons (o:={dst:=some 11,op:=_,type:=_,pos:=_,after:=_,guard:=_}) rfl (fun K j=>?_) AllReadyH.nil))
       ·
        go_simp
        refine(I.out _ r.out.dk).mono ?_;rintro e ww ⟨s,c3,rfl,D,E,b⟩;have r:=Hq (r.out.put (by have:=f.out.lt (i:=3) (by simp);omega) D E b);have f:=Hq (f.out.step b);clear b D E;(try clear hSn);have hSn:=And.intro f.out.Ag f.out.Ah;refine Bl j (fun a=>?_);clear j K;refine Au 13 ?_;refine Au 14 ?_;refine Au 15 ?_;refine Bx 16 fun K j=>?_
        go_simp
        have B:w.heap.size+4≤ww.heap.size:=f.out.lt (i:=3) (by simp);have r:=Hq (r.out.below (Ad ww (.cells #['s',(),false] 28)));have f:=Hq (f.out.step (Ad ww (.cells #['s',(),false] 28)));have l:=Hq (heap_alloc_new ww (.cells #['s',(),false] 28));(try clear hSn);have hSn:=And.intro f.out.Ag f.out.Ah;refine Bl j (fun a=>?_);clear j K;refine Bx 17 fun K j=>?_;refine Az (by rfl) ?_;refine sW #[.slice s d3.sectors.length c3,d3.left,d3.down] l.out ?_;have r:=Hq (r.out.row l.out (by decide) #[.slice s d3.sectors.length c3,d3.left,d3.down]);have f:=Hq (f.out.under (M:=ww.heap.size) (by show w.heap.size+4≤_;exact B) (below_setRow (Below.refl ww.heap.size (ww.alloc (.cells #['s',(),false] 28))) (Nat.le_refl ww.heap.size) #[.slice s d3.sectors.length c3,d3.left,d3.down]));have l:=Hq (show((ww.alloc (.cells #['s',(),false] 28)).setRow ww.heap.size #[.slice s d3.sectors.length c3,d3.left,d3.down]).heap[ww.heap.size]? =some (.cells #[.slice s d3.sectors.length c3,d3.left,d3.down] 28 (0,0))from setRow_heap _ _ _ _ _ _ l.out)
        (try clear hSn);have hSn:=And.intro f.out.Ag f.out.Ah
        refine Bl j (fun a=>?_);clear j K
        try simp only[Act.put]
        refine Au 18 ?_;refine wpAnyH_done Kr ?_ _;clear a hSn;go_wp2_with fail;go_meet
        case rel=>exact⟨_,s,c3,rfl,rfl,f.out,B,l.out,r.out⟩
       ·
        go_simp
        have B:w.heap.size+4≤N.heap.size:=f.out.lt (i:=3) (by simp);have r:=Hq (r.out.below (Ad N (.cells #['s',(),false] 28)));have f:=Hq (f.out.step (Ad N (.cells #['s',(),false] 28)));have l:=Hq (heap_alloc_new N (.cells #['s',(),false] 28));(try clear hSn);have hSn:=And.intro f.out.Ag f.out.Ah;refine Bl j (fun a=>?_);clear j K;refine Bx 12 fun K j=>?_
        go_simp
        refine(I.out _ r.out.dk).mono ?_;rintro e ww ⟨s,c3,rfl,D,E,b⟩;have r:=Hq (r.out.put (by have:=f.out.lt (i:=3) (by simp);omega) D E b);have f:=Hq (f.out.step b);have l:=Hq (Ac l.out b);clear b D E;(try clear hSn);have hSn:=And.intro f.out.Ag f.out.Ah;refine Bl j (fun a=>?_);clear j K;refine Au 13 ?_;refine Au 14 ?_;refine Au 15 ?_;refine Bx 17 fun K j=>?_;refine Az (by rfl) ?_;refine sW #[.slice s d3.sectors.length c3,d3.left,d3.down] l.out ?_;have r:=Hq (r.out.row l.out (by decide) #[.slice s d3.sectors.length c3,d3.left,d3.down]);have f:=Hq (f.out.under (M:=N.heap.size) (by show w.heap.size+4≤_;exact B) (below_setRow (Below.refl N.heap.size ww) (Nat.le_refl N.heap.size) #[.slice s d3.sectors.length c3,d3.left,d3.down]));have l:=Hq (show(ww.setRow N.heap.size #[.slice s d3.sectors.length c3,d3.left,d3.down]).heap[N.heap.size]? =some (.cells #[.slice s d3.sectors.length c3,d3.left,d3.down] 28 (0,0))from setRow_heap _ _ _ _ _ _ l.out)
        (try clear hSn);have hSn:=And.intro f.out.Ag f.out.Ah
        refine Bl j (fun a=>?_);clear j K
        try simp only[Act.put]
        refine Au 18 ?_;refine wpAnyH_done Kr ?_ _;clear a hSn;go_wp2_with fail;go_meet
        case rel=>exact⟨_,s,c3,rfl,rfl,f.out,B,l.out,r.out⟩
      ·
       go_simp
       have B:w.heap.size+4≤wf.heap.size:=f.out.lt (i:=3) (by simp);have r:=Hq (r.out.below (Ad wf (.cells #['s',(),false] 28)));have f:=Hq (f.out.step (Ad wf (.cells #['s',(),false] 28)));have l:=Hq (heap_alloc_new wf (.cells #['s',(),false] 28));(try clear hSn);have hSn:=And.intro f.out.Ag f.out.Ah;refine Bl j (fun a=>?_);clear j K;refine Bx 11 fun K j=>?_
       go_simp
       refine(ax.out _).mono ?_;rintro e N ⟨rfl,b⟩;have r:=Hq (r.out.below b);have f:=Hq (f.out.step b);have l:=Hq (Ac l.out b);clear b;(try clear hSn);have hSn:=And.intro f.out.Ag f.out.Ah;refine Bl j (fun a=>?_);clear j K;refine Bx 12 fun K j=>?_
       go_simp
       refine(I.out _ r.out.dk).mono ?_;rintro e ww ⟨s,c3,rfl,D,E,b⟩;have r:=Hq (r.out.put (by have:=f.out.lt (i:=3) (by simp);omega) D E b);have f:=Hq (f.out.step b);have l:=Hq (Ac l.out b);clear b D E;(try clear hSn);have hSn:=And.intro f.out.Ag f.out.Ah;refine Bl j (fun a=>?_);clear j K;refine Au 13 ?_;refine Au 14 ?_;refine Au 15 ?_;refine Bx 17 fun K j=>?_;refine Az (by rfl) ?_;refine sW #[.slice s d3.sectors.length c3,d3.left,d3.down] l.out ?_;have r:=Hq (r.out.row l.out (by decide) #[.slice s d3.sectors.length c3,d3.left,d3.down]);have f:=Hq (f.out.under (M:=wf.heap.size) (by show w.heap.size+4≤_;exact B) (below_setRow (Below.refl wf.heap.size ww) (Nat.le_refl wf.heap.size) #[.slice s d3.sectors.length c3,d3.left,d3.down]));have l:=Hq (show(ww.setRow wf.heap.size #[.slice s d3.sectors.length c3,d3.left,d3.down]).heap[wf.heap.size]? =some (.cells #[.slice s d3.sectors.length c3,d3.left,d3.down] 28 (0,0))from setRow_heap _ _ _ _ _ _ l.out)
       (try clear hSn);have hSn:=And.intro f.out.Ag f.out.Ah
       refine Bl j (fun a=>?_);clear j K
       try simp only[Act.put]
       refine Au 18 ?_;refine wpAnyH_done Kr ?_ _;clear a hSn;go_wp2_with fail;go_meet
       case rel=>exact⟨_,s,c3,rfl,rfl,f.out,B,l.out,r.out⟩
     ·
      go_simp
      have B:w.heap.size+4≤wr.drew.heap.size:=f.out.lt (i:=3) (by simp);have r:=Hq (r.out.below (Ad wr.drew (.cells #['s',(),false] 28)));have f:=Hq (f.out.step (Ad wr.drew (.cells #['s',(),false] 28)));have l:=Hq (heap_alloc_new wr.drew (.cells #['s',(),false] 28));(try clear hSn);have hSn:=And.intro f.out.Ag f.out.Ah;refine Bl j (fun a=>?_);clear j K;refine Bx 4 fun K j=>?_
      go_simp
      refine(ag.out _).mono ?_;rintro e wf ⟨rfl,b⟩;have r:=Hq (r.out.below b);have f:=Hq (f.out.step b);have l:=Hq (Ac l.out b);clear b;(try clear hSn);have hSn:=And.intro f.out.Ag f.out.Ah;refine Bl j (fun a=>?_);clear j K;refine Au 5 ?_;refine Au 7 ?_;refine Bx 11 fun K j=>?_
      go_simp
      refine(ax.out _).mono ?_;rintro e N ⟨rfl,b⟩;have r:=Hq (r.out.below b);have f:=Hq (f.out.step b);have l:=Hq (Ac l.out b);clear b;(try clear hSn);have hSn:=And.intro f.out.Ag f.out.Ah;refine Bl j (fun a=>?_);clear j K;refine Bx 12 fun K j=>?_
      go_simp
      refine(I.out _ r.out.dk).mono ?_;rintro e ww ⟨s,c3,rfl,D,E,b⟩;have r:=Hq (r.out.put (by have:=f.out.lt (i:=3) (by simp);omega) D E b);have f:=Hq (f.out.step b);have l:=Hq (Ac l.out b);clear b D E;(try clear hSn);have hSn:=And.intro f.out.Ag f.out.Ah;refine Bl j (fun a=>?_);clear j K;refine Au 13 ?_;refine Au 14 ?_;refine Au 15 ?_;refine Bx 17 fun K j=>?_;refine Az (by rfl) ?_;refine sW #[.slice s d3.sectors.length c3,d3.left,d3.down] l.out ?_;have r:=Hq (r.out.row l.out (by decide) #[.slice s d3.sectors.length c3,d3.left,d3.down]);have f:=Hq (f.out.under (M:=wr.drew.heap.size) (by show w.heap.size+4≤_;exact B) (below_setRow (Below.refl wr.drew.heap.size ww) (Nat.le_refl wr.drew.heap.size) #[.slice s d3.sectors.length c3,d3.left,d3.down]));have l:=Hq (show(ww.setRow wr.drew.heap.size #[.slice s d3.sectors.length c3,d3.left,d3.down]).heap[wr.drew.heap.size]? =some (.cells #[.slice s d3.sectors.length c3,d3.left,d3.down] 28 (0,0))from setRow_heap _ _ _ _ _ _ l.out)
      (try clear hSn);have hSn:=And.intro f.out.Ag f.out.Ah
      refine Bl j (fun a=>?_);clear j K
      try simp only[Act.put]
      refine Au 18 ?_;refine wpAnyH_done Kr ?_ _;clear a hSn;go_wp2_with fail;go_meet
      case rel=>exact⟨_,s,c3,rfl,rfl,f.out,B,l.out,r.out⟩
    case rest=>
     obtain⟨g,s,c3,rfl,rfl,U,B,an,ao⟩:=hcut;obtain⟨wb,rfl⟩:=ex wc;have P:=Hq U;have ah:=Hq an;have ai:=Hq ao;clear U an ao a7 L I bm bn
     by_cases J:V=0
     ·have bo:=Hq (a1.out.trans (O.out J))
      subst J;clear O H
      go_upto_region 11 with(first
       |with_reducible refine lL ah.out Bz ?_
       |with_reducible refine lS #[.slice s d3.sectors.length c3,d3.left,d3.down] P.out.Ag ?_)
      have cx:=Hq (show Dm w.heap.size w [(#[.slice s d3.sectors.length c3,d3.left,d3.down],28),(#[fr,n,en,sf,t],30),(#['s',(),false],28),(#[(),(),(),(),""],30)] (wb.setRow w.heap.size #[.slice s d3.sectors.length c3,d3.left,d3.down])from by have h:=P.out.row 0 #[.slice s d3.sectors.length c3,d3.left,d3.down] _ rfl;simpa using h);have cy:=Hq (ai.out.row P.out.Ag (by decide) #[.slice s d3.sectors.length c3,d3.left,d3.down]);obtain⟨W4,cb⟩:=ex (wb.setRow w.heap.size #[.slice s d3.sectors.length c3,d3.left,d3.down]);rw[← cb]at cx cy;rw[← cb];clear cb P ah ai;have dx:IntKind.i64.wrap ((k:Int)-1)=(k:Int)-1:=IntWalk.i64_in _ (by omega);go_wp2_with fail;go_roundw
      case rel=>exact⟨(k:Int)-1,d3,s,c3,rfl,by omega,by omega,by rw[show((k:Int)-1+1).toNat=k by omega];exact bo.out,cx.out,cy.out,bl.out⟩
      case measure=>first|(simp[intOf];done)|(simp[intOf];omega)
     ·have Z:=Hq (X.out d3 V J (a1.out.trans (H.out J)))
      have ae:(V==0)=false:=(by simpa using J);have bp:(V != 0)=true:=(by simpa using J);clear O H J;go_upto_region 14 with fail;clear ae bp;have HD:=Hq P.out.drew;have X0:=Ac ah.out (Below.refl _ wb).drew;have Y0:=HD.out.Ah;refine E4 (S:=(fun u=>u.heap[g]? =some (.cells #[.slice s d3.sectors.length c3,d3.left,d3.down] 28 (0,0))∧u.heap[(w.heap.size+1)]? =some (.cells #[fr,n,en,sf,t] 30 (0,0)))) (fun a=>?_) (by first|exact hSn|exact⟨X0,Y0⟩);refine Q3 0 Bz ?_;refine Q3 1 Fp ?_;refine Au 2 ?_;refine Bx 3 fun K j=>?_;refine Az (by rfl) ?_;refine sW #[.slice s d3.sectors.length c3,d3.left,d3.down] HD.out.Ax ?_;have HE:=Hq (HD.out.row 2 #[.slice s d3.sectors.length c3,d3.left,d3.down] _ rfl);have X1:=((Aj _ (w.heap.size+2) #[.slice s d3.sectors.length c3,d3.left,d3.down] g (by omega)).trans X0);have Y1:=HE.out.Ah;have hSn:=And.intro X1 Y1;refine Bl j (fun a=>?_) (by first|exact hSn|exact⟨X0,Y0⟩);clear j K
      try simp only[Act.put]
      refine Bx 4 fun K j=>?_;refine Az (by rfl) ?_;refine sW #[fr,n,en,sf,t] HE.out.g3 ?_;have l:=Hq (HE.out.row 3 #[fr,n,en,sf,t] _ rfl)
      try clear hSn
      have hSn:=And.intro ((Aj _ (w.heap.size+3) #[fr,n,en,sf,t] g (by omega)).trans X1) l.out.Ah;refine Bl j (fun a=>?_) (by first|exact hSn|exact⟨X0,Y0⟩);clear j K
      try simp only[Act.put]
      refine Au 5 ?_;refine wpAnyH_done Kr ?_ _;clear a hSn;go_wp2_with fail;refine bodyPost_ret (v:=.tuple #[.agg #[.slice s d3.sectors.length c3,d3.left,d3.down],.agg #[fr,n,en,sf,t],V]) (Ez rfl _ _ rfl rfl (Ct l.out.Ax Bz Kr Kr) (Ct l.out.g3 Fp Kr Kr) rfl) rfl ?_;have k1:=ai.out.below (Below.refl _ wb).drew;have k2:=k1.row HD.out.Ax (by decide) #[.slice s d3.sectors.length c3,d3.left,d3.down];exact HO.out s c3 _ (d3,⟨fr,n,en,sf,t⟩,V) Z.out (k2.row HE.out.g3 (by decide) _) l.out.below
theorem dI (d:Lg.Dk)(b: -9223372036854775808≤d.left∧d.left≤9223372036854775807)(A:Option Addr)(c:Nat)(l:Lg.Lo)(a:Lg.Al l)(e:l.end_≤1000000000)(f: -1000000000≤l.n)(g:l.n≤1000000000)(i: -1000000000≤l.from_)(j:l.from_≤1000000000)(p:l.tail.size≤1000000)(w:World)(h:By w d A c)(q:C4 0 w 9 A):
 Cq 236 #[Cd d A c,Oc l] w (Ft (Lg.Bo d l) A w):=by
 obtain⟨o,n,en,sf,k⟩:=l;have r:0≤sf:=a.s0;have t:sf≤en:=a.se;have s:en-(k.size:Int)=sf-sf%128:=a.tl
 by_cases m:sf=en
 ·subst m
  exact Zv d A c o n sf k _ (Lg.Sh rfl) w h
 ·exact jS d b A c o n en sf k (by omega) r e f g i j p s w h q
end Go.Proofs.YtmldoihahndcgaaGreatDoor
