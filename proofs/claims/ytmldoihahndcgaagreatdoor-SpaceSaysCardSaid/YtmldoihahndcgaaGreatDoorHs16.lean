import Derived.Test.YtmldoihahndcgaaGreatDoorHs00
import Derived.Test.YtmldoihahndcgaaGreatDoorHs05
import Derived.Test.YtmldoihahndcgaaGreatDoorHs11
import Derived.Test.YtmldoihahndcgaaGreatDoorHs06
import Derived.Test.YtmldoihahndcgaaGreatDoorHs01
import Derived.BigRegion
set_option maxRecDepth 100000
set_option maxHeartbeats 16000000
set_option linter.unusedSimpArgs false
namespace Go.Proofs.YtmldoihahndcgaaGreatDoor
open Go.RowKit
theorem Oh (d:Lg.Dk)(A:Option Addr)(c:Nat)(a:Int)(w:World):
 Cr 294 #[Cv d A c,a] w (.bool (decide (Lg.F6 d a))):=by
 obtain⟨L,left,down⟩:=d
 by_cases b:0≤a
 ·by_cases e:a<(L.length:Int)
  ·rw[decide_eq_true (show Lg.F6 ⟨L,left,down⟩ a from And.intro b e)]
   go_enter Tryz.func294,Tryz.ntmps294;go_wp2_with fail;go_ret;exact⟨by simp,Ab _ _⟩
  ·rw[decide_eq_false (show ¬ Lg.F6 ⟨L,left,down⟩ a from fun h=>e h.2)]
   go_enter Tryz.func294,Tryz.ntmps294;go_wp2_with fail;go_ret;exact⟨by simp,Ab _ _⟩
 ·rw[decide_eq_false (show ¬ Lg.F6 ⟨L,left,down⟩ a from fun h=>b h.1)]
  go_enter Tryz.func294,Tryz.ntmps294;go_wp2_with fail;go_ret;exact⟨by simp,Ab _ _⟩
theorem Sy (d:Lg.Dk)(A:Option Addr)(c:Nat)(a:Int)(w:World)(h:Ca w d A c):
 Cr 266 #[Cv d A c,a] w (.tuple #[.string (Lg.K5 d a).1,.int .i64 (Lg.K5 d a).2]):=by
 have j:=Hq (fun W=>Oh d A c a W);have q:=Hq h.secs;clear h;unfold Lg.K5
 cases l:d.down with
 |true=>
  obtain⟨L,left,down⟩:=d;simp only at l;subst l;rw[if_pos rfl];dsimp only[Cv];go_enter Tryz.func266,Tryz.ntmps266;go_wp2_with fail;go_ret2;exact⟨rfl,Ab _ _⟩
 |false=>
  rw[if_neg (by simp)]
  by_cases i:Lg.F6 d a
  ·rw[if_pos i]
   rw[decide_eq_true i]at j;obtain⟨L,left,down⟩:=d;simp only at l;subst l;unfold Lg.F6 at i;unfold Lg.Ic;dsimp only[Cv]at i j q ⊢;obtain⟨r,v⟩:=i;obtain⟨k,rfl⟩:=Int.eq_ofNat_of_zero_le r;have hk:k<L.length:=(by omega);obtain⟨b,off,rfl,y,n,g⟩:=Bu N5 q.out hk;have m:=g 0 _ rfl;simp only[Nat.mul_one,Nat.add_zero]at m;rw[Int.toNat_natCast,List.getElem?_eq_getElem hk,Option.getD_some];generalize L[k]=x at m ⊢;have t:=Hq m;clear m g r;go_enter Tryz.func266,Tryz.ntmps266
   go_upto_region 5 with(go_at_call 294;(with_reducible refine(j.out _).mono ?_);rintro e s ⟨rfl,f⟩;have u:=Aa (Bo f))
   have z:s.cell? ⟨b,off+k,none⟩=some (.string x):=(Ad (Ab w _) f).cell (p:=⟨b,off+k,none⟩) n|>.trans t.out
   have o:=Hq (Ad (Ab w _) f);clear f;go_wp2_with fail;go_ret2;exact⟨rfl,o.out⟩
  ·rw[if_neg i]
   rw[decide_eq_false i]at j;clear i;obtain⟨L,left,down⟩:=d;simp only at l;subst l;dsimp only[Cv]at j ⊢;go_enter Tryz.func266,Tryz.ntmps266
   go_wp2_with(go_at_call 294;(with_reducible refine(j.out _).mono ?_);rintro e s ⟨rfl,f⟩)
   go_ret2;exact⟨rfl,Ad (Ab _ _) f⟩
theorem Sz (f n e s:Int)(t:ByteArray)(a:0≤s)(g:s≤1000000000)(w:World):
 Cr 290 #[.agg #[f,n,e,s,t]] w (.int .i64 (s/128)):=by
 have d:s.tdiv 128=s/128:=Int.tdiv_eq_ediv_of_nonneg a;have b:IntKind.i64.wrap (s/128)=s/128:=IntWalk.i64_in _ (by omega);have c:IntKind.i64.wrap (s.tdiv 128)=s/128:=by rw[d];exact b
 go_enter Tryz.func290,Tryz.ntmps290;go_wp2_with fail;go_ret;exact⟨by simp,Ab _ _⟩
theorem jV (L:List ByteArray)(left:Int)(down:Bool)(A:Option Addr)(c:Nat)(k:Nat)(b:ByteArray)(hk:k<L.length)(hlen:L.length≤1000000)(w:World)(h:Reads w A c L.length (L.flatMap I1)):
 Cq 322 #[.agg #[.slice A L.length c,left,down],.int .i64 (k:Int),b] w fun e w'=>∃ A2 c2,e= .returned (.agg #[.slice A2 L.length c2,left,down])∧Reads w' A2 c2 L.length ((L.map Value.string).set k (.string b))∧Cp w.heap.size w' 9 A2∧Bw w w':=by
 obtain⟨i0,V,B,C,D⟩:=info_parts Ll;have W:(k:Int)<(L.length:Int):=by omega
 have X:=Hq h;clear h;go_enter Tryz.func322,Tryz.ntmps322;go_upto_region 1 with fail;have o:=Hp w #[.slice A L.length c,left,down] 28 #['s',(),false] 28;have q:=Aa o.out.Ai;obtain⟨m,f⟩:=Ee o;have E:=Hq (show m.heap.size=w.heap.size+2 from by rw[f];simp);rw[← f]at o q ⊢;clear f;have H1:=Hq (o.out.step (Ab m (.cells #[] 9)));have r:=Hq (X.out.below H1.out.below);have Y:=Aa H1.out.Ai
 go_upto_region 2 with(at_builtin;refine Cw Kr fun K Z=>Ki (m.alloc (.cells #[] 9)) (.tmp 8) (.tmp 10) 26 9 i0 (.string ⟨#[]⟩) 1 16 Q3 V B C D rfl (by omega) rfl m.heap.size _ 0 [] rfl (Jt m 9 1) A L.length c (L.flatMap I1) rfl r.out (by rw[Cc N5]) (fun u P=>by rw[J3]at P;obtain⟨x,_,rfl⟩:=List.mem_map.1 P;rfl) (by omega) (by omega) (by simp) ?_;intro v2 Q z hg R;refine Z _ _ ?_)
 rw[List.nil_append,Nat.zero_add,J3]at z;have F:=E.out;have S:=Hq (H1.out.under (M:=m.heap.size) (by rw[F];exact Nat.le_refl _) R);obtain⟨A2,c2,rfl⟩:=Kh z;obtain⟨g,cap,hv,a1,a6,T,i,G,a⟩:=lD z hk
 injection hv with H a7 I
 subst H I;rw[List.getElem?_eq_getElem (by simpa using hk)]at i;simp only[List.getElem_map]at i;have d:=Hq a;clear z a hg R H1 r o q;go_upto_region 3 with fail;have J:w.heap.size+2≤g:=by omega
 have s:=Hq (S.out.under (M:=g) (by show w.heap.size+2≤g;exact J) ((Below.refl g Q).setCell (p:=⟨g,k,none⟩) (Nat.le_refl g) (.string b)));have j:=Hq (d.out (.string b));obtain⟨U,t⟩:=ex (Q.setCell ⟨g,k,none⟩ (.string b));rw[← t]at s j ⊢;have N:=Aa s.out.Ai;have O:=Ap s.out.Ai;clear t i G d S;go_upto_region 4 with fail;have n:=Hq (s.out.set 0 0 (.slice (some ⟨g,0,none⟩) L.length c2) _ rfl);simp only[Nat.add_zero]at n;have v:=Hq (show(U.setCell ⟨w.heap.size,0,none⟩ (.slice (some ⟨g,0,none⟩) L.length c2)).heap[w.heap.size]? =some (.cells #[.slice (some ⟨g,0,none⟩) L.length c2,left,down] 28 (0,0))from by have h:=n.out.Ai;simpa using h);have l:=Hq (Jm j.out ⟨w.heap.size,0,none⟩ (.slice (some ⟨g,0,none⟩) L.length c2) (by show w.heap.size<_;omega));obtain⟨W5,y⟩:=ex (U.setCell ⟨w.heap.size,0,none⟩ (.slice (some ⟨g,0,none⟩) L.length c2));rw[← y]at n v l ⊢;clear y N O j s
 go_wp2_with(first
  |with_reducible refine lL v.out Cu ?_|with_reducible refine lS #[.slice (some ⟨g,0,none⟩) L.length c2,left,down] n.out.Am ?_)
 refine rT1 n.out.Am Cu ?_;exact⟨_,_,rfl,(Dr l.out).Vi _ _ (fun _ ad e=>(by injection e with e;rw[← e];show g≠w.heap.size+1;omega)),((Cp.own l.out).row _ _).mono (by omega),(n.out.row 1 _ _ rfl).below⟩
theorem Zp (L:List ByteArray)(left:Int)(A:Option Addr)(c:Nat)(a:Int)(b:ByteArray)(x:Lg.Dk×Int)(i:x=(⟨L,left,true⟩,20))(w:World)(h:Ca w ⟨L,left,true⟩ A c):
 Cq 291 #[.agg #[.slice A L.length c,left,true],a,b] w (D4 x A w):=by
 have j:=Hq (fun w' k=>Hc (dn:=true) i h (w':=w') k);dsimp only at j;clear i h;go_enter Tryz.func291,Tryz.ntmps291;go_upto_region 1 with fail;have d:=Hp w #[.slice A L.length c,left,true] 28 #['s',(),false] 28;have f:=Aa d.out.Ai;obtain⟨l,e⟩:=Ee d;rw[← e]at d f ⊢;clear e;have g:=Hq (show l.heap[w.heap.size]? =some (.cells #[.slice A L.length c,left,true] 28 (0,0))from(by have h:=d.out.Ai;simpa using h))
 go_wp2_with(first|with_reducible refine lL g.out Cu ?_|with_reducible refine lS #[.slice A L.length c,left,true] d.out.Am ?_)
 refine rT2 (.int .i64 20) d.out.Am Cu ?_;exact j.out _ ((d.out.row 1 _ _ rfl).below)
theorem cZ (L:List ByteArray)(left:Int)(A:Option Addr)(c:Nat)(a:Int)(b:ByteArray)(i:¬ (Lg.F6 ⟨L,left,false⟩ a∧b.size=128))(x:Lg.Dk×Int)(y:x=(⟨L,left,false⟩,1))(w:World)(h:Ca w ⟨L,left,false⟩ A c):
 Cq 291 #[.agg #[.slice A L.length c,left,false],a,b] w (D4 x A w):=by
 have o:=Hq (fun w' z=>Hc (dn:=false) y h (w':=w') z);dsimp only at o;have m:=Hq (fun W=>Oh ⟨L,left,false⟩ A c a W);clear y h
 by_cases n:Lg.F6 ⟨L,left,false⟩ a
 ·rw[decide_eq_true n]at m
  have B:¬ b.size=128:=fun e=>i ⟨n,e⟩;have p:((b.size:Int)==128)=false:=by simp;omega
  have q:((b.size:Int) != 128)=true:=by simp;omega
  have r:(b.size==128)=false:=by simp;omega
  have s:(b.size != 128)=true:=by simp;omega
  clear i n;dsimp only[Cv]at m;go_enter Tryz.func291,Tryz.ntmps291;go_upto_region 1 with fail;have d:=Hp w #[.slice A L.length c,left,false] 28 #['s',(),false] 28;have j:=Aa d.out.Ai;obtain⟨t,f⟩:=Ee d;rw[← f]at d j ⊢;clear f;have k:=Hq (show t.heap[w.heap.size]? =some (.cells #[.slice A L.length c,left,false] 28 (0,0))from(by have h:=d.out.Ai;simpa using h))
  go_upto_region 4 with(first|with_reducible refine lL k.out Cu ?_|(go_at_call 294;(with_reducible refine(m.out _).mono ?_);rintro e u ⟨rfl,g⟩;have H1:=Hq (d.out.step g);clear g;have v:=Aa H1.out.Ai))
  have l:=Hq (show u.heap[w.heap.size]? =some (.cells #[.slice A L.length c,left,false] 28 (0,0))from(by have h:=H1.out.Ai;simpa using h));clear B p q r s
  go_wp2_with(first|with_reducible refine lL l.out Cu ?_|with_reducible refine lS #[.slice A L.length c,left,false] H1.out.Am ?_)
  refine rT2 (.int .i64 1) H1.out.Am Cu ?_;exact o.out _ ((H1.out.row 1 _ _ rfl).below)
 ·rw[decide_eq_false n]at m
  clear i n;dsimp only[Cv]at m;go_enter Tryz.func291,Tryz.ntmps291;go_upto_region 1 with fail;have d:=Hp w #[.slice A L.length c,left,false] 28 #['s',(),false] 28;have j:=Aa d.out.Ai;obtain⟨t,f⟩:=Ee d;rw[← f]at d j ⊢;clear f;have k:=Hq (show t.heap[w.heap.size]? =some (.cells #[.slice A L.length c,left,false] 28 (0,0))from(by have h:=d.out.Ai;simpa using h))
  go_upto_region 4 with(first|with_reducible refine lL k.out Cu ?_|(go_at_call 294;(with_reducible refine(m.out _).mono ?_);rintro e u ⟨rfl,g⟩;have H1:=Hq (d.out.step g);clear g;have v:=Aa H1.out.Ai))
  have l:=Hq (show u.heap[w.heap.size]? =some (.cells #[.slice A L.length c,left,false] 28 (0,0))from(by have h:=H1.out.Ai;simpa using h))
  go_wp2_with(first|with_reducible refine lL l.out Cu ?_|with_reducible refine lS #[.slice A L.length c,left,false] H1.out.Am ?_)
  refine rT2 (.int .i64 1) H1.out.Am Cu ?_;exact o.out _ ((H1.out.row 1 _ _ rfl).below)
theorem dA (L:List ByteArray)(A:Option Addr)(c:Nat)(a:Int)(b:ByteArray)(r:Lg.F6 ⟨L,0,false⟩ a)(u:b.size=128)(x:Lg.Dk×Int)(s:x=(⟨L,0,true⟩,20))(w:World)(h:Ca w ⟨L,0,false⟩ A c):
 Cq 291 #[.agg #[.slice A L.length c,(),false],a,b] w (D4 x A w):=by
 have t:=Hq (fun w' v=>Hc (dn:=true) s h (w':=w') v);dsimp only at t;have i:=Hq (fun W=>Oh ⟨L,0,false⟩ A c a W);rw[decide_eq_true r]at i;have j:((b.size:Int)==128)=true:=by simp;omega
 have k:((b.size:Int) != 128)=false:=by simp;omega
 have l:(b.size==128)=true:=by simp;omega
 have m:(b.size != 128)=false:=by simp;omega
 clear s h u r;dsimp only[Cv]at i;go_enter Tryz.func291,Tryz.ntmps291;go_upto_region 1 with fail;have d:=Hp w #[.slice A L.length c,(),false] 28 #['s',(),false] 28;have n:=Aa d.out.Ai;obtain⟨y,f⟩:=Ee d;rw[← f]at d n ⊢;clear f;have o:=Hq (show y.heap[w.heap.size]? =some (.cells #[.slice A L.length c,(),false] 28 (0,0))from(by have h:=d.out.Ai;simpa using h))
 go_upto_region 5 with(first|with_reducible refine lL o.out Cu ?_|(go_at_call 294;(with_reducible refine(i.out _).mono ?_);rintro e z ⟨rfl,g⟩;have H1:=Hq (d.out.step g);clear g;have B:=Aa H1.out.Ai))
 clear j k l m;have C:=Ap H1.out.Ai;go_upto_region 7 with fail;have p:=Hq (show(z.setCell ⟨w.heap.size,2,none⟩ (.bool true)).heap[w.heap.size]? =some (.cells #[.slice A L.length c,(),true] 28 (0,0))from by have h:=(H1.out.set 0 2 (.bool true) _ rfl).get 0 _ rfl;simpa using h);have q:=Hq (H1.out.set 0 2 (.bool true) _ rfl)
 go_wp2_with(first|with_reducible refine lL p.out Cu ?_|with_reducible refine lS #[.slice A L.length c,(),true] q.out.Am ?_)
 refine rT2 (.int .i64 20) q.out.Am Cu ?_;exact t.out _ ((q.out.row 1 _ _ rfl).below)
theorem jW (L:List ByteArray)(left:Int)(t:left≠0)(I: -9223372036854775808≤left∧left≤9223372036854775807)(A:Option Addr)(c:Nat)(k:Nat)(b:ByteArray)(hk:k<L.length)(J:b.size=128)(x:Lg.Dk×Int)(F:x=(⟨L.set k b,if 0<left then left-1 else left,false⟩,0))(w:World)(h:Ca w ⟨L,left,false⟩ A c):
 Cq 291 #[.agg #[.slice A L.length c,left,false],.int .i64 (k:Int),b] w (D4 x A w):=by
 have r:=Hq (fun W=>Oh ⟨L,left,false⟩ A c k W);rw[decide_eq_true (show Lg.F6 ⟨L,left,false⟩ (k:Int)from⟨by omega,by show(k:Int)<(L.length:Int);omega⟩)]at r;have u:((b.size:Int)==128)=true:=by simp;omega
 have v:((b.size:Int) != 128)=false:=by simp;omega
 have y:(left==0)=false:=by simpa using t
 have hlen:L.length≤1000000:=h.small;have G:=Hq (fun left W (K:Bw w W)=>jV L left false A c k b hk hlen W (h.secs.below K));have s:=Hq F;clear F h J;dsimp only[Cv]at r;go_enter Tryz.func291,Tryz.ntmps291;go_upto_region 1 with fail;have i:=Hp w #[.slice A L.length c,left,false] 28 #['s',(),false] 28;have l:=Aa i.out.Ai;obtain⟨M,m⟩:=Ee i;rw[← m]at i l ⊢;clear m;have n:=Hq (show M.heap[w.heap.size]? =some (.cells #[.slice A L.length c,left,false] 28 (0,0))from(by have h:=i.out.Ai;simpa using h))
 go_upto_region 8 with(first|with_reducible refine lL n.out Cu ?_|(go_at_call 294;(with_reducible refine(r.out _).mono ?_);rintro e z ⟨rfl,o⟩;have H1:=Hq (i.out.step o);clear o;have B:=Aa H1.out.Ai))
 clear u v y r l n i
 by_cases H:0<left
 ·rw[if_pos H]at s
  have N:IntKind.i64.wrap (left-1)=left-1:=IntWalk.i64_in _ (by omega);have C:=Ap H1.out.Ai;go_upto_region 10 with fail;have j:=Hq (H1.out.set 0 1 (.int .i64 (left-1)) _ rfl);have p:=Hq (show(z.setCell ⟨w.heap.size,1,none⟩ (.int .i64 (left-1))).heap[w.heap.size]? =some (.cells #[.slice A L.length c,.int .i64 (left-1),false] 28 (0,0))from by have h:=j.out.Ai;simpa using h);simp only[Nat.add_zero]at j;obtain⟨P,q⟩:=ex (z.setCell ⟨w.heap.size,1,none⟩ (.int .i64 (left-1)));rw[← q]at j p ⊢;clear q C B H1
  go_wp2_with(first
   |with_reducible refine lL p.out Cu ?_
   |(go_at_call 322;(with_reducible refine(G.out _ _ j.out.below).mono ?_);rintro e O ⟨D,c2,rfl,f,a,g⟩;have d:=Hq (j.out.step g))
   |with_reducible refine lS #[.slice D L.length c2,.int .i64 (left-1),false] d.out.Am ?_)
  refine rT2 () d.out.Am Cu ?_;exact Me s.out (by rw[List.length_set]) (a.Dx f d.out.Am (by decide) _) rfl rfl (by rw[List.length_set];exact hlen) ((a.row _ _).mono j.out.below.size) ((d.out.row 1 _ _ rfl).below)
 ·rw[if_neg H]at s
  have E:=Hq (show z.heap[w.heap.size]? =some (.cells #[.slice A L.length c,left,false] 28 (0,0))from(by have h:=H1.out.Ai;simpa using h))
  go_wp2_with(first
   |with_reducible refine lL E.out Cu ?_
   |(go_at_call 322;(with_reducible refine(G.out _ _ H1.out.below).mono ?_);rintro e O ⟨D,c2,rfl,f,a,g⟩;have d:=Hq (H1.out.step g))
   |with_reducible refine lS #[.slice D L.length c2,left,false] d.out.Am ?_)
  refine rT2 () d.out.Am Cu ?_;exact Me s.out (by rw[List.length_set]) (a.Dx f d.out.Am (by decide) _) rfl rfl (by rw[List.length_set];exact hlen) ((a.row _ _).mono H1.out.below.size) ((d.out.row 1 _ _ rfl).below)
theorem Nh (d:Lg.Dk)(f: -9223372036854775808≤d.left∧d.left≤9223372036854775807)(A:Option Addr)(c:Nat)(a:Int)(b:ByteArray)(w:World)(h:Ca w d A c):
 Cq 291 #[Cv d A c,a,b] w (D4 (Lg.Bz d a b) A w):=by
 obtain⟨L,left,down⟩:=d
 cases down with
 |true=>exact Zp L left A c a b _ (by unfold Lg.Bz;rw[if_pos rfl]) w h
 |false=>
  by_cases e:Lg.F6 ⟨L,left,false⟩ a∧b.size=128
  ·by_cases g:left=0
   ·subst g
    exact dA L A c a b e.1 e.2 _ (by unfold Lg.Bz;rw[if_neg (by simp),if_neg (fun i=>i e),if_pos rfl]) w h
   ·obtain⟨k,rfl⟩:=Int.eq_ofNat_of_zero_le e.1.1
    have hk:k<L.length:=(by have j:=e.1.2;simp only at j;omega);exact jW L left g f A c k b hk e.2 _ (by unfold Lg.Bz;rw[if_neg (by simp),if_neg (fun i=>i e),if_neg g];simp) w h
  ·exact cZ L left A c a b e _ (by unfold Lg.Bz;rw[if_neg (by simp),if_pos e]) w h
theorem S1 (s:ByteArray)(g:s.size≤128)(w:World):
 Cr 292 #[s] w (.string (Lg.E2 s.data.toList)):=by
 obtain⟨k,hk⟩:=ex (128-s.size);have h:IntKind.i64.wrap ((128:Int)-(s.size:Int))=(k:Int):=by
  have e:(128:Int)-(s.size:Int)=(k:Int):=by omega
  rw[e];exact IntWalk.i64_in _ (by omega)
 have f:=fun W=>bV k (by omega) W;have b:=bW k;have a:Lg.E2 s.data.toList=s++⟨(List.replicate k 0).toArray⟩:=by
  unfold Lg.E2
  apply ByteArray.ext
  rw[ByteArray.data_append]
  apply Array.toList_inj.1
  have i:s.data.toList.length=s.size:=by simp
  simp[hk]
 have c:(⟨(List.replicate k 0).toArray⟩:ByteArray).size=k:=by show(List.replicate k (0:UInt8)).toArray.size=_;simp
 rw[a];generalize (⟨(List.replicate k 0).toArray⟩:ByteArray)=R at b c ⊢;have d:∀ W:World,(Op.stringOp .add s R).run Tryz.prog W= .ok (.string (s++R)) W:=fun W=>run_string_add_sum W _ _ (by omega);clear a hk;go_enter Tryz.func292,Tryz.ntmps292;go_wp2_with fail;go_ret;exact⟨rfl,Ab _ _⟩
theorem jX (t:ByteArray)(r:t.size≤1000000)(k:Nat)(hk:k*128≤t.size)(w:World):
 Cr 293 #[t,.int .i64 (k:Int)] w (.string (Lg.E2 ((t.data.toList.drop (k*128)).take 128))):=by
 obtain⟨a,c⟩:=ex (k*128);rw[← c]at hk ⊢;have g:IntKind.i64.wrap ((k:Int)*128)=(a:Int):=by
  have e:(k:Int)*128=(a:Int):=by omega
  rw[e];exact IntWalk.i64_in _ (by omega)
 have i:IntKind.i64.wrap ((a:Int)+128)=(a:Int)+128:=IntWalk.i64_in _ (by omega);obtain⟨m,j⟩:=ex (min (a+128) t.size);have l:min ((a:Int)+128) (t.size:Int)=(m:Int):=by omega
 have n:a≤m:=by omega
 have o:m≤t.size:=by omega
 have p:(a:Int)≤(m:Int):=by omega
 have q:(m:Int)≤(t.size:Int):=by omega
 have d:(t.extract a m).data.toList=(t.data.toList.drop a).take 128:=by
  simp only[ByteArray.data_extract,Array.toList_extract,List.extract_eq_take_drop];have s:t.data.toList.length=t.size:=by simp
  by_cases h:a+128≤t.size
  ·rw[show m-a=128 by omega]
  ·rw[List.take_of_length_le (by rw[List.length_drop];omega),List.take_of_length_le (by rw[List.length_drop];omega)]
 have f:=Hq (fun W=>S1 (t.extract a m) (by rw[ByteArray.size_extract];omega) W);rw[d]at f;clear d j c;go_enter Tryz.func293,Tryz.ntmps293
 go_wp2_with(go_at_call 292;(with_reducible refine(f.out _).mono ?_);rintro e u ⟨rfl,b⟩)
 go_ret;exact⟨rfl,b⟩
structure Wx (n:Nat) (w:World) (d:Lg.Dk) (A0 A:Option Addr) (c:Nat):Prop where
 dk:Ca w d A c
 dt:Cp 0 w 9 A
 nw:A=A0∨Cp n w 9 A
theorem Wx.below {n:Nat}{w w':World}{d:Lg.Dk}{b A:Option Addr}{c:Nat}(h:Wx n w d b A c)(a:Bw w w'):Wx n w' d b A c:=⟨h.dk.below a,h.dt.below a,h.nw.imp id (fun k=>k.below a)⟩
theorem Wx.row {n:Nat}{w:World}{d:Lg.Dk}{a A:Option Addr}{c:Nat}(h:Wx n w d a A c){b:Nat}{cur:Array Value}{t:TypeId}{fr:Nat×Nat}(e:w.heap[b]? =some (.cells cur t fr))(f:t≠9)(cs:Array Value):Wx n (w.setRow b cs) d a A c:=
 ⟨⟨h.dt.Dx h.dk.secs e f cs,h.dk.small⟩,h.dt.row b cs,h.nw.imp id (fun k=>k.row b cs)⟩
theorem Wx.set {n:Nat}{w:World}{d:Lg.Dk}{a A:Option Addr}{c:Nat}(h:Wx n w d a A c){b:Nat}{cur:Array Value}{t:TypeId}{fr:Nat×Nat}(e:w.heap[b]? =some (.cells cur t fr))(f:t≠9)(j:Nat)(v:Value):Wx n (w.setCell ⟨b,j,none⟩ v) d a A c:=by
 rw[setCell_eq_setRow w b j cur t fr v e];exact h.row e f _
theorem Wx.put {n:Nat}{w w':World}{d b:Lg.Dk}{f A a:Option Addr}{c c':Nat}(h:Wx n w d f A c)(j:n≤w.heap.size)(l:Ca w' b a c')(g:a=A∨Cp w.heap.size w' 9 a)(i:Bw w w'):Wx n w' b f a c':=
 ⟨l,g.elim (fun e=>by rw[e];exact h.dt.below i) (fun k=>k.mono (Nat.zero_le _)),g.elim (fun e=>by rw[e];exact h.nw.imp id (fun k=>k.below i)) (fun k=>.inr (k.mono j))⟩
theorem Zq (d:Lg.Dk)(A:Option Addr)(c:Nat)(fr n en:Int)(b:ByteArray)(o:Lg.Dk×Lg.Lo×Int)(r:o=(d,⟨fr,n,en,en,b⟩,0))(w:World)(h:Ca w d A c):
 Cq 236 #[.agg #[.slice A d.sectors.length c,d.left,d.down],.agg #[fr,n,en,en,b]] w (Fj o A w):=by
 have t:=Hq (fun w' (s:Bw w w')=>show Fj o A w (.returned (.tuple #[.agg #[.slice A d.sectors.length c,d.left,d.down],.agg #[fr,n,en,en,b],()])) w' from by
  subst r;exact⟨A,c,rfl,⟨h.secs.below s,h.small⟩,.inl rfl,s⟩)
 clear r h;go_enter Tryz.func236,Tryz.ntmps236;go_upto_region 1 with fail;have i:=tU w #[.slice A d.sectors.length c,d.left,d.down] 28 #[fr,n,en,en,b] 30 #['s',(),false] 28 #[(),(),(),(),""] 30;obtain⟨z,e⟩:=Ee i;rw[← e]at i ⊢;clear e;have l:=Aa i.out.Am;have m:en≤en:=Int.le_refl _;go_upto_region 2 with fail;clear l m;have j:=Hq i.out.drew;have p:=j.out.Ai;have q:=j.out.Am;refine Gd (S:=(fun u=>u.heap[w.heap.size]? =some (.cells #[.slice A d.sectors.length c,d.left,d.down] 28 (0,0))∧u.heap[(w.heap.size+1)]? =some (.cells #[fr,n,en,en,b] 30 (0,0)))) (fun a=>?_) (by first|exact hSn|exact⟨p,q⟩);refine Nk 0 Cu ?_;refine Nk 1 Fi ?_;refine Ch 2 fun K f=>?_;refine Ay (by rfl) ?_;refine sW #[.slice A d.sectors.length c,d.left,d.down] j.out.Cj ?_;have k:=Hq (j.out.row 2 #[.slice A d.sectors.length c,d.left,d.down] _ rfl);have x:=k.out.Ai;have y:=k.out.Am;have hSn:=And.intro x y;refine Bq f (fun a=>?_) (by first|exact hSn|exact⟨p,q⟩);clear f K
 try simp only[Act.put]
 refine Ch 3 fun K f=>?_;refine Ay (by rfl) ?_;refine sW #[fr,n,en,en,b] k.out.g3 ?_;have g:=Hq (k.out.row 3 #[fr,n,en,en,b] _ rfl)
 try clear hSn
 have hSn:=And.intro g.out.Ai g.out.Am;refine Bq f (fun a=>?_) (by first|exact hSn|exact⟨p,q⟩);clear f K
 try simp only[Act.put]
 refine Au 4 ?_;refine wpAnyH_done Kr ?_ _;clear a hSn;go_wp2_with fail;refine bodyPost_ret (v:=.tuple #[.agg #[.slice A d.sectors.length c,d.left,d.down],.agg #[fr,n,en,en,b],()]) (Et rfl _ _ rfl rfl (Ci g.out.Cj Cu Kr Kr) (Ci g.out.g3 Fi Kr Kr) rfl) rfl ?_;exact t.out _ g.out.below
theorem jY (d:Lg.Dk)(cd: -9223372036854775808≤d.left∧d.left≤9223372036854775807)(A:Option Addr)(c:Nat)(fr n en sf:Int)(t:ByteArray)(cf:sf<en)(b9:0≤sf)(ae:en≤1000000000)(_hn0: -1000000000≤n)(_hn1:n≤1000000000)(dr: -1000000000≤fr)(ds:fr≤1000000000)(ht:t.size≤1000000)(cg:en-(t.size:Int)=sf-sf%128)(w:World)(h:Ca w d A c)(hT:Cp 0 w 9 A):
 Cq 236 #[.agg #[.slice A d.sectors.length c,d.left,d.down],.agg #[fr,n,en,sf,t]] w (Fj (Lg.Az d ⟨fr,n,en,sf,t⟩) A w):=by
 have ba:¬ sf=en:=by omega
 have X:=Hq (fun d2 e (J:e≠0) hp=> @Lg.R4 d d2 ⟨fr,n,en,sf,t⟩ e ba J hp);have a6:=Hq (fun d2 hp=> @Lg.Uf d d2 ⟨fr,n,en,sf,t⟩ ba hp);have HO:=Hq (fun A' c' w' x (hx:Lg.Az d ⟨fr,n,en,sf,t⟩=x) (h1:Wx w.heap.size w' x.1 A A' c') (h3:Bw w w')=>show Fj (Lg.Az d ⟨fr,n,en,sf,t⟩) A w (.returned (.tuple #[Cv x.1 A' c',Kv x.2.1,x.2.2])) w' from⟨A',c',by rw[hx],by rw[hx];exact h1.dk,h1.nw,h3⟩);have cj:=Hq (show Wx w.heap.size w d A A c from⟨h,hT,.inl rfl⟩);have T:Lg.Fe ⟨fr,n,en,sf,t⟩=sf/128:=Lg.Al.first ⟨b9,Int.le_of_lt cf,cg⟩;have ck:=Lg.Hz t;have cm:0<t.size:=by omega
 obtain⟨C,hC⟩:=ex (Lg.Hb t);have cn:∀ k,k*128<t.size→C[k]? =some (Lg.E2 ((t.data.toList.drop (k*128)).take 128)):=by rw[hC];exact fun k hk=>Lg.nD t k hk
 obtain⟨all,ak⟩:=ex (Lg.F7 ⟨fr,n,en,sf,t⟩);have a8:all=if sf/128+(C.length:Int)<n then C++[Lg.Cf]else C:=by rw[ak,hC];unfold Lg.F7;rw[T]
 rw[← ak]at X a6;rw[T]at X a6;rw[← hC]at ck;generalize Lg.Az d ⟨fr,n,en,sf,t⟩=o at X a6 HO ⊢;generalize Fj o A w=Q at HO ⊢;obtain⟨m,hm⟩:=ex ((t.size-1)/128:Nat);have af:C.length=m+1:=by omega
 have db:m*128<t.size:=by omega
 obtain⟨F,hF⟩:=ex (sf/128:Int);have dt:0≤F:=by omega
 have du:F≤10000000:=by omega
 have cp:(⟨#[]⟩:ByteArray).size≤128:=by decide
 have an:=Hq (fun W=>show Cr 292 #[""] W (.string Lg.Cf) from by
  have h9:=S1 ⟨#[]⟩ cp W;rw[show Lg.E2 (⟨#[]⟩:ByteArray).data.toList=Lg.Cf from Lg.nE]at h9;exact h9)
 have ag:=Hq (fun W=>show Cr 290 #[.agg #[fr,n,en,sf,t]] W (.int .i64 F) from by
  have h9:=Sz fr n en sf t b9 (by omega) W;rw[← hF]at h9;exact h9)
 obtain⟨G,hG⟩:=ex (en/128:Int);have bb:=Hq (fun W=>show Cr 290 #[.agg #[fr,n,en,en,t]] W (.int .i64 G) from by
  have h9:=Sz fr n en en t (by omega) ae W;rw[← hG]at h9;exact h9)
 have bc:=Hq (fun(k:Nat) (hk:k≤m) W=>show Cr 293 #[t,.int .i64 (k:Int)] W (.string (all[k]?.getD ⟨#[]⟩)) from by
  have h9:=jX t ht k (by omega) W;have e:all[k]? =C[k]? :=by
   rw[a8]
   split
   ·exact List.getElem?_append_left (by omega)
   ·rfl
  rw[e,cn k (by omega)];exact h9)
 have Y:=Hq (show(F+(m:Int)+1<n→all.length=m+1+1∧all[m+1]?.getD ⟨#[]⟩=Lg.Cf)∧(¬ F+(m:Int)+1<n→all.length=m+1)from by
  constructor
  ·intro aa
   rw[a8,if_pos (by rw[af];omega)];refine⟨by rw[List.length_append,af];rfl,?_⟩;rw[List.getElem?_append_right (by omega),af]
   simp
  ·intro aa
   rw[a8,if_neg (by rw[af];omega),af])
 obtain⟨q,hq⟩:=ex (t.size-(en%128).toNat:Nat);have cq:(G-F)*128=(q:Int):=by omega
 have cr:q≤t.size:=by omega
 have av:=Hq (show Lg.Il ⟨fr,n,en,sf,t⟩=⟨fr,n,en,en,t.extract q t.size⟩from by
  rw[hq];rfl)
 have dv:0≤G:=by omega
 have dw:G≤10000000:=by omega
 have dx:m≤10000:=by omega
 have bd:=Hq (show IntKind.i64.wrap (G-F)=G-F from IntWalk.i64_in _ (by omega));have bf:=Hq (show IntKind.i64.wrap ((G-F)*128)=(q:Int)from by rw[cq];exact IntWalk.i64_in _ (by omega));have bg:=Hq (show min (q:Int) (t.size:Int)=(q:Int)from by omega);have bh:=Hq cr;have dc:IntKind.i64.wrap ((t.size:Int)-1)=(t.size:Int)-1:=IntWalk.i64_in _ (by omega);have bj:IntKind.i64.wrap (((t.size:Int)-1).tdiv 128)=(m:Int):=by
  have e:((t.size:Int)-1).tdiv 128=(m:Int):=by
   rw[Int.tdiv_eq_ediv_of_nonneg (by omega)];omega
  rw[e];exact IntWalk.i64_in _ (by omega)
 rw[← hF]at X a6;have ct:¬ en≤sf:=by omega
 generalize Lg.Cf=z at an Y;have bk:=Hq cd;clear h hT cf b9 ae _hn0 _hn1 ht cg ba T ck cm hC cn ak a8 hm af db hF hG hq cq cr cp cd;go_enter Tryz.func236,Tryz.ntmps236;go_upto_region 1 with fail;have H0:=tU w #[.slice A d.sectors.length c,d.left,d.down] 28 #[fr,n,en,sf,t] 30 #['s',(),false] 28 #[(),(),(),(),""] 30;obtain⟨W0,cu⟩:=Ee H0;rw[← cu]at H0 ⊢;clear cu;have bl:=Aa H0.out.Am;go_upto_region 4 with fail;clear bl dc bj ct;have K0:=H0.out.drew;have XL:=K0.Am;have bj:IntKind.i64.wrap (F+(m:Int))=F+(m:Int):=IntWalk.i64_in _ (by omega);have dd:IntKind.i64.wrap (F+(m:Int)+1)=F+(m:Int)+1:=IntWalk.i64_in _ (by omega);refine Gd (S:=(fun u=>u.heap[w.heap.size+1]? =some (.cells #[fr,n,en,sf,t] 30 (0,0)))) (fun a=>?_);refine Nk 0 Fi ?_;refine Au 2 ?_;refine Au 5 ?_;refine Au 6 ?_;refine Ch 1 fun K j=>?_
 go_simp
 refine(ag.out _).mono ?_;rintro e w3 ⟨rfl,U⟩;have hSn:=Ae XL U;refine Bq j (fun a=>?_);clear j K;refine Au 3 ?_;refine Au 4 ?_;refine Au 7 ?_;refine wpAnyH_done Kr ?_ _;clear a hSn;have H1:=Hq (K0.step U);clear U K0 XL H0;have L:=Hq (cj.out.below H1.out.below);go_upto_if 33 with fail;clear bj dd
 go_cut [7] (fun s7 wc=>s7= .int .i64 (m:Int)∧∃ (d2:Lg.Dk) (A2:Option Addr) (c2:Nat),Lg.Cd (fr+F) all all.length d=Lg.Cd (fr+F) all (m+1) d2∧D6 w.heap.size w [(#[.slice A2 d2.sectors.length c2,d2.left,d2.down],28),(#[fr,n,en,sf,t],30),(#['s',(),false],28),(#[(),(),(),(),""],30)] wc∧Wx w.heap.size wc d2 A A2 c2∧(-9223372036854775808≤d2.left∧d2.left≤9223372036854775807))
 case first=>
  by_cases aa:F+(m:Int)+1<n
  ·obtain⟨hlen,hz⟩:=Y.out.1 aa
   have aw:= @Lg.Lm d (fr+F+(m:Int)+1) z bk.out;have I:=Hq (fun W hW=>Nh d bk.out A c (fr+F+(m:Int)+1) z W hW);rcases hx:Lg.Bz d (fr+F+(m:Int)+1) z with⟨d3,V⟩;have ha:fr+F+((m+1:Nat):Int)=fr+F+(m:Int)+1:=(by omega);have O:=Hq (fun(J:V=0)=>Lg.O4 (base:=fr+F) (all:=all) (k:=m+1) (d:=d) (d2:=d3) (by rw[hz,ha,hx,J]));have H:=Hq (fun(J:V≠0)=>Lg.Ln (base:=fr+F) (all:=all) (k:=m+1) (d:=d) (d2:=d3) J (by rw[hz,ha,hx]));rw[hx]at I aw;rw[← hlen]at O H;simp only at aw;have bm:=Hq aw;clear hx aw ha hz hlen;have bn:IntKind.i64.wrap (fr+F)=fr+F:=IntWalk.i64_in _ (by omega);have bo:IntKind.i64.wrap (fr+F+(m:Int))=fr+F+(m:Int):=IntWalk.i64_in _ (by omega);have de:IntKind.i64.wrap (fr+F+(m:Int)+1)=fr+F+(m:Int)+1:=IntWalk.i64_in _ (by omega);go_upto_region 5 with fail
   go_cut [8,9] (fun p q wc=>∃ (g:Nat) (s:Option Addr) (c3:Nat),p= .pointer (some ⟨g,0,none⟩)∧q= .int .i64 V∧D6 w.heap.size w [(#[.slice A d.sectors.length c,d.left,d.down],28),(#[fr,n,en,sf,t],30),(#['s',(),false],28),(#[(),(),(),(),""],30)] wc∧w.heap.size+4≤g∧wc.heap[g]? =some (.cells #[.slice s d3.sectors.length c3,d3.left,d3.down] 28 (0,0))∧Wx w.heap.size wc d3 A s c3)
   case first=>
    have f:=H1;have r:=L;clear H1 L O H HO X a6 bc Y bb av bd bf bg bh;have f:=Hq f.out.drew;have r:=Hq (r.out.below (Below.refl _ w3).drew);refine Gd (S:=(fun u=>u.heap[w.heap.size]? =some (.cells #[.slice A d.sectors.length c,d.left,d.down] 28 (0,0))∧u.heap[w.heap.size+1]? =some (.cells #[fr,n,en,sf,t] 30 (0,0)))) (fun a=>?_) ⟨f.out.Ai,f.out.Am⟩;refine Nk 0 Cu ?_;refine Au 1 ?_;refine Au 2 ?_;refine Nk 3 Fi ?_;refine Au 6 ?_;refine wpAnyH_ready (rs:=[4,14]) Kr (by simp) ?_;refine(AllReadyH.cons (o:={dst:=some 39,op:=_,type:=_,pos:=_,after:=_,guard:=_}) rfl (fun K j=>?_) (AllReadyH.cons (o:={dst:=some 8,op:=_,type:=_,pos:=_,after:=_,guard:=_}) rfl (fun K j=>?_) AllReadyH.nil))
    ·
     go_simp
     refine(ag.out _).mono ?_;rintro e wf ⟨rfl,b⟩;have r:=Hq (r.out.below b);have f:=Hq (f.out.step b);clear b;(try clear hSn);have hSn:=And.intro f.out.Ai f.out.Am;refine Bq j (fun a=>?_);clear j K;refine Au 5 ?_;refine Au 7 ?_;refine Au 8 ?_;refine wpAnyH_ready (rs:=[9,14]) Kr (by simp) ?_;refine(AllReadyH.cons (o:={dst:=some 44,op:=_,type:=_,pos:=_,after:=_,guard:=_}) rfl (fun K j=>?_) (AllReadyH.cons (o:={dst:=some 8,op:=_,type:=_,pos:=_,after:=_,guard:=_}) rfl (fun K j=>?_) AllReadyH.nil))
     ·
      go_simp
      refine(an.out _).mono ?_;rintro e N ⟨rfl,b⟩;have r:=Hq (r.out.below b);have f:=Hq (f.out.step b);clear b;(try clear hSn);have hSn:=And.intro f.out.Ai f.out.Am;refine Bq j (fun a=>?_);clear j K;refine wpAnyH_ready (rs:=[10,14]) Kr (by simp) ?_;refine(AllReadyH.cons (o:={dst:=some 45,op:=_,type:=_,pos:=_,after:=_,guard:=_}) rfl (fun K j=>?_) (AllReadyH.cons (o:={dst:=some 8,op:=_,type:=_,pos:=_,after:=_,guard:=_}) rfl (fun K j=>?_) AllReadyH.nil))
      ·
       go_simp
       refine(I.out _ r.out.dk).mono ?_;rintro e ww ⟨s,c3,rfl,D,E,b⟩;have r:=Hq (r.out.put (by have:=f.out.lt (i:=3) (by simp);omega) D E b);have f:=Hq (f.out.step b);clear b D E;(try clear hSn);have hSn:=And.intro f.out.Ai f.out.Am;refine Bq j (fun a=>?_);clear j K;refine Au 11 ?_;refine Au 12 ?_;refine Au 13 ?_;refine Ch 14 fun K j=>?_
       go_simp
       have B:w.heap.size+4≤ww.heap.size:=f.out.lt (i:=3) (by simp);have r:=Hq (r.out.below (Ab ww (.cells #['s',(),false] 28)));have f:=Hq (f.out.step (Ab ww (.cells #['s',(),false] 28)));have l:=Hq (heap_alloc_new ww (.cells #['s',(),false] 28));(try clear hSn);have hSn:=And.intro f.out.Ai f.out.Am;refine Bq j (fun a=>?_);clear j K;refine Ch 15 fun K j=>?_;refine Ay (by rfl) ?_;refine sW #[.slice s d3.sectors.length c3,d3.left,d3.down] l.out ?_;have r:=Hq (r.out.row l.out (by decide) #[.slice s d3.sectors.length c3,d3.left,d3.down]);have f:=Hq (f.out.under (M:=ww.heap.size) (by show w.heap.size+4≤_;exact B) (below_setRow (Below.refl ww.heap.size (ww.alloc (.cells #['s',(),false] 28))) (Nat.le_refl ww.heap.size) #[.slice s d3.sectors.length c3,d3.left,d3.down]));have l:=Hq (show((ww.alloc (.cells #['s',(),false] 28)).setRow ww.heap.size #[.slice s d3.sectors.length c3,d3.left,d3.down]).heap[ww.heap.size]? =some (.cells #[.slice s d3.sectors.length c3,d3.left,d3.down] 28 (0,0))from setRow_heap _ _ _ _ _ _ l.out)
       (try clear hSn);have hSn:=And.intro f.out.Ai f.out.Am
       refine Bq j (fun a=>?_);clear j K
       try simp only[Act.put]
       refine Au 16 ?_;refine wpAnyH_done Kr ?_ _;clear a hSn;go_wp2_with fail;go_meet
       case rel=>exact⟨_,s,c3,rfl,rfl,f.out,B,l.out,r.out⟩
      ·
       go_simp
       have B:w.heap.size+4≤N.heap.size:=f.out.lt (i:=3) (by simp);have r:=Hq (r.out.below (Ab N (.cells #['s',(),false] 28)));have f:=Hq (f.out.step (Ab N (.cells #['s',(),false] 28)));have l:=Hq (heap_alloc_new N (.cells #['s',(),false] 28));(try clear hSn);have hSn:=And.intro f.out.Ai f.out.Am;refine Bq j (fun a=>?_);clear j K;refine Ch 10 fun K j=>?_
       go_simp
       refine(I.out _ r.out.dk).mono ?_;rintro e ww ⟨s,c3,rfl,D,E,b⟩;have r:=Hq (r.out.put (by have:=f.out.lt (i:=3) (by simp);omega) D E b);have f:=Hq (f.out.step b);have l:=Hq (Ae l.out b);clear b D E;(try clear hSn);have hSn:=And.intro f.out.Ai f.out.Am;refine Bq j (fun a=>?_);clear j K;refine Au 11 ?_;refine Au 12 ?_;refine Au 13 ?_;refine Ch 15 fun K j=>?_;refine Ay (by rfl) ?_;refine sW #[.slice s d3.sectors.length c3,d3.left,d3.down] l.out ?_;have r:=Hq (r.out.row l.out (by decide) #[.slice s d3.sectors.length c3,d3.left,d3.down]);have f:=Hq (f.out.under (M:=N.heap.size) (by show w.heap.size+4≤_;exact B) (below_setRow (Below.refl N.heap.size ww) (Nat.le_refl N.heap.size) #[.slice s d3.sectors.length c3,d3.left,d3.down]));have l:=Hq (show(ww.setRow N.heap.size #[.slice s d3.sectors.length c3,d3.left,d3.down]).heap[N.heap.size]? =some (.cells #[.slice s d3.sectors.length c3,d3.left,d3.down] 28 (0,0))from setRow_heap _ _ _ _ _ _ l.out)
       (try clear hSn);have hSn:=And.intro f.out.Ai f.out.Am
       refine Bq j (fun a=>?_);clear j K
       try simp only[Act.put]
       refine Au 16 ?_;refine wpAnyH_done Kr ?_ _;clear a hSn;go_wp2_with fail;go_meet
       case rel=>exact⟨_,s,c3,rfl,rfl,f.out,B,l.out,r.out⟩
     ·
      go_simp
      have B:w.heap.size+4≤wf.heap.size:=f.out.lt (i:=3) (by simp);have r:=Hq (r.out.below (Ab wf (.cells #['s',(),false] 28)));have f:=Hq (f.out.step (Ab wf (.cells #['s',(),false] 28)));have l:=Hq (heap_alloc_new wf (.cells #['s',(),false] 28));(try clear hSn);have hSn:=And.intro f.out.Ai f.out.Am;refine Bq j (fun a=>?_);clear j K;refine Ch 9 fun K j=>?_
      go_simp
      refine(an.out _).mono ?_;rintro e N ⟨rfl,b⟩;have r:=Hq (r.out.below b);have f:=Hq (f.out.step b);have l:=Hq (Ae l.out b);clear b;(try clear hSn);have hSn:=And.intro f.out.Ai f.out.Am;refine Bq j (fun a=>?_);clear j K;refine Ch 10 fun K j=>?_
      go_simp
      refine(I.out _ r.out.dk).mono ?_;rintro e ww ⟨s,c3,rfl,D,E,b⟩;have r:=Hq (r.out.put (by have:=f.out.lt (i:=3) (by simp);omega) D E b);have f:=Hq (f.out.step b);have l:=Hq (Ae l.out b);clear b D E;(try clear hSn);have hSn:=And.intro f.out.Ai f.out.Am;refine Bq j (fun a=>?_);clear j K;refine Au 11 ?_;refine Au 12 ?_;refine Au 13 ?_;refine Ch 15 fun K j=>?_;refine Ay (by rfl) ?_;refine sW #[.slice s d3.sectors.length c3,d3.left,d3.down] l.out ?_;have r:=Hq (r.out.row l.out (by decide) #[.slice s d3.sectors.length c3,d3.left,d3.down]);have f:=Hq (f.out.under (M:=wf.heap.size) (by show w.heap.size+4≤_;exact B) (below_setRow (Below.refl wf.heap.size ww) (Nat.le_refl wf.heap.size) #[.slice s d3.sectors.length c3,d3.left,d3.down]));have l:=Hq (show(ww.setRow wf.heap.size #[.slice s d3.sectors.length c3,d3.left,d3.down]).heap[wf.heap.size]? =some (.cells #[.slice s d3.sectors.length c3,d3.left,d3.down] 28 (0,0))from setRow_heap _ _ _ _ _ _ l.out)
      (try clear hSn);have hSn:=And.intro f.out.Ai f.out.Am
      refine Bq j (fun a=>?_);clear j K
      try simp only[Act.put]
      refine Au 16 ?_;refine wpAnyH_done Kr ?_ _;clear a hSn;go_wp2_with fail;go_meet
      case rel=>exact⟨_,s,c3,rfl,rfl,f.out,B,l.out,r.out⟩
    ·
     go_simp
     have B:w.heap.size+4≤w3.drew.heap.size:=f.out.lt (i:=3) (by simp);have r:=Hq (r.out.below (Ab w3.drew (.cells #['s',(),false] 28)));have f:=Hq (f.out.step (Ab w3.drew (.cells #['s',(),false] 28)));have l:=Hq (heap_alloc_new w3.drew (.cells #['s',(),false] 28));(try clear hSn);have hSn:=And.intro f.out.Ai f.out.Am;refine Bq j (fun a=>?_);clear j K;refine Ch 4 fun K j=>?_
     go_simp
     refine(ag.out _).mono ?_;rintro e wf ⟨rfl,b⟩;have r:=Hq (r.out.below b);have f:=Hq (f.out.step b);have l:=Hq (Ae l.out b);clear b;(try clear hSn);have hSn:=And.intro f.out.Ai f.out.Am;refine Bq j (fun a=>?_);clear j K;refine Au 5 ?_;refine Au 7 ?_;refine Au 8 ?_;refine Ch 9 fun K j=>?_
     go_simp
     refine(an.out _).mono ?_;rintro e N ⟨rfl,b⟩;have r:=Hq (r.out.below b);have f:=Hq (f.out.step b);have l:=Hq (Ae l.out b);clear b;(try clear hSn);have hSn:=And.intro f.out.Ai f.out.Am;refine Bq j (fun a=>?_);clear j K;refine Ch 10 fun K j=>?_
     go_simp
     refine(I.out _ r.out.dk).mono ?_;rintro e ww ⟨s,c3,rfl,D,E,b⟩;have r:=Hq (r.out.put (by have:=f.out.lt (i:=3) (by simp);omega) D E b);have f:=Hq (f.out.step b);have l:=Hq (Ae l.out b);clear b D E;(try clear hSn);have hSn:=And.intro f.out.Ai f.out.Am;refine Bq j (fun a=>?_);clear j K;refine Au 11 ?_;refine Au 12 ?_;refine Au 13 ?_;refine Ch 15 fun K j=>?_;refine Ay (by rfl) ?_;refine sW #[.slice s d3.sectors.length c3,d3.left,d3.down] l.out ?_;have r:=Hq (r.out.row l.out (by decide) #[.slice s d3.sectors.length c3,d3.left,d3.down]);have f:=Hq (f.out.under (M:=w3.drew.heap.size) (by show w.heap.size+4≤_;exact B) (below_setRow (Below.refl w3.drew.heap.size ww) (Nat.le_refl w3.drew.heap.size) #[.slice s d3.sectors.length c3,d3.left,d3.down]));have l:=Hq (show(ww.setRow w3.drew.heap.size #[.slice s d3.sectors.length c3,d3.left,d3.down]).heap[w3.drew.heap.size]? =some (.cells #[.slice s d3.sectors.length c3,d3.left,d3.down] 28 (0,0))from setRow_heap _ _ _ _ _ _ l.out)
     (try clear hSn);have hSn:=And.intro f.out.Ai f.out.Am
     refine Bq j (fun a=>?_);clear j K
     try simp only[Act.put]
     refine Au 16 ?_;refine wpAnyH_done Kr ?_ _;clear a hSn;go_wp2_with fail;go_meet
     case rel=>exact⟨_,s,c3,rfl,rfl,f.out,B,l.out,r.out⟩
   case rest=>
    obtain⟨g,s,c3,rfl,rfl,U,B,ao,aq⟩:=hcut;obtain⟨wb,rfl⟩:=ex wc;have P:=Hq U;have ah:=Hq ao;have ai:=Hq aq;clear U ao aq H1 L I bn bo de
    by_cases J:V=0
    ·have bp:=Hq (O.out J)
     subst J;clear O H
     go_wp2_with(first
      |with_reducible refine lL ah.out Cu ?_
      |with_reducible refine lS #[.slice s d3.sectors.length c3,d3.left,d3.down] P.out.Ai ?_)
     go_meet
     case rel=>exact⟨rfl,d3,s,c3,bp.out,by have h:=P.out.row 0 #[.slice s d3.sectors.length c3,d3.left,d3.down] _ rfl;simpa using h,ai.out.row P.out.Ai (by decide) _,bm.out⟩
    ·have Z:=Hq (X.out d3 V J (H.out J))
     have ae:(V==0)=false:=(by simpa using J);have bq:(V != 0)=true:=(by simpa using J);clear O H J;go_upto_region 7 with fail;clear ae bq;have HD:=Hq P.out.drew;have X0:=Ae ah.out (Below.refl _ wb).drew;have Y0:=HD.out.Am;refine Gd (S:=(fun u=>u.heap[g]? =some (.cells #[.slice s d3.sectors.length c3,d3.left,d3.down] 28 (0,0))∧u.heap[(w.heap.size+1)]? =some (.cells #[fr,n,en,sf,t] 30 (0,0)))) (fun a=>?_) (by first|exact hSn|exact⟨X0,Y0⟩);refine Nk 0 Cu ?_;refine Nk 1 Fi ?_;refine Au 2 ?_;refine Ch 3 fun K j=>?_;refine Ay (by rfl) ?_;refine sW #[.slice s d3.sectors.length c3,d3.left,d3.down] HD.out.Cj ?_;have HE:=Hq (HD.out.row 2 #[.slice s d3.sectors.length c3,d3.left,d3.down] _ rfl);have X1:=((Ah _ (w.heap.size+2) #[.slice s d3.sectors.length c3,d3.left,d3.down] g (by omega)).trans X0);have Y1:=HE.out.Am;have hSn:=And.intro X1 Y1;refine Bq j (fun a=>?_) (by first|exact hSn|exact⟨X0,Y0⟩);clear j K
     try simp only[Act.put]
     refine Ch 4 fun K j=>?_;refine Ay (by rfl) ?_;refine sW #[fr,n,en,sf,t] HE.out.g3 ?_;have l:=Hq (HE.out.row 3 #[fr,n,en,sf,t] _ rfl)
     try clear hSn
     have hSn:=And.intro ((Ah _ (w.heap.size+3) #[fr,n,en,sf,t] g (by omega)).trans X1) l.out.Am;refine Bq j (fun a=>?_) (by first|exact hSn|exact⟨X0,Y0⟩);clear j K
     try simp only[Act.put]
     refine Au 5 ?_;refine wpAnyH_done Kr ?_ _;clear a hSn;go_wp2_with fail;refine bodyPost_ret (v:=.tuple #[.agg #[.slice s d3.sectors.length c3,d3.left,d3.down],.agg #[fr,n,en,sf,t],V]) (Et rfl _ _ rfl rfl (Ci l.out.Cj Cu Kr Kr) (Ci l.out.g3 Fi Kr Kr) rfl) rfl ?_;have k1:=ai.out.below (Below.refl _ wb).drew;have k2:=k1.row HD.out.Cj (by decide) #[.slice s d3.sectors.length c3,d3.left,d3.down];exact HO.out s c3 _ (d3,⟨fr,n,en,sf,t⟩,V) Z.out (k2.row HE.out.g3 (by decide) _) l.out.below
  ·have hlen:=Y.out.2 aa
   go_wp2_with fail;go_meet
   case rel=>exact⟨rfl,d,A,c,by rw[hlen],H1.out,L.out,bk.out⟩
 case rest=>
  obtain⟨rfl,d0,A0,c0,ar,az,b0,b1⟩:=hcut;obtain⟨wa,rfl⟩:=ex wc;have au:=Hq ar;have b2:=Hq az;have b3:=Hq b0;have b4:=Hq b1;clear ar az b0 b1 H1 L Y an;go_wp2_with fail
  go_loopw [10] (fun i wr=>∃ (x:Int) (d2:Lg.Dk) (A2:Option Addr) (c2:Nat),i= .int .i64 x∧-1≤x∧x≤(m:Int)∧Lg.Cd (fr+F) all all.length d=Lg.Cd (fr+F) all (x+1).toNat d2∧D6 w.heap.size w [(#[.slice A2 d2.sectors.length c2,d2.left,d2.down],28),(#[fr,n,en,sf,t],30),(#['s',(),false],28),(#[(),(),(),(),""],30)] wr∧Wx w.heap.size wr d2 A A2 c2∧(-9223372036854775808≤d2.left∧d2.left≤9223372036854775807)) (fun i _=>(intOf i+1).toNat)
  case atStart=>exact⟨(m:Int),d0,A0,c0,rfl,by omega,by omega,by rw[show((m:Int)+1).toNat=m+1 by omega];exact au.out,b2.out,b3.out,b4.out⟩
  case round=>
   obtain⟨x,d2,A2,c2,rfl,df,dh,b5,cv,cw,b6⟩:=hrel;have a1:=Hq b5;have a7:=Hq cv;have L:=Hq cw;have b7:=Hq b6;clear b5 cv cw b6 au b2 b3 b4
   by_cases h0:x= -1
   ·subst h0
    have Z:=Hq (a6.out d2 (a1.out.trans rfl));clear df dh
    go_upto_region 17 with(first
     |with_reducible refine lL a7.out.Am Fi ?_
     |with_reducible refine sN #[fr,n,en,sf,t] ?_)
    have HM:=Hq (heap_alloc_new wr (.cells #[fr,n,en,sf,t] 30));have br:w.heap.size+4≤wr.heap.size:=a7.out.lt (i:=3) (by simp);have ax:=Hq (a7.out.step (Ab wr (.cells #[fr,n,en,sf,t] 30)));have bs:=Hq (L.out.below (Ab wr (.cells #[fr,n,en,sf,t] 30)));obtain⟨R,bt⟩:=ex wr.heap.size;obtain⟨W1,bu⟩:=ex (wr.alloc (.cells #[fr,n,en,sf,t] 30));rw[← bt]at HM br;rw[← bu]at HM ax bs;rw[← bu,← bt];clear bt bu a7 L;have bl:=Aa ax.out.Am;have bw:=Aa HM.out;have bx:=Ap HM.out;go_upto_region 18 with fail;have bz:=Hq (show(W1.setCell ⟨R,3,none⟩ (.int .i64 en)).heap[R]? =some (.cells #[fr,n,en,en,t] 30 (0,0))from by have h:=Cb 3 HM.out (.int .i64 en);simpa using h);have c6:=Hq (ax.out.under (M:=R) (by show w.heap.size+4≤R;exact br) ((Below.refl R W1).setCell (p:=⟨R,3,none⟩) (Nat.le_refl R) (.int .i64 en)));have c7:=Hq (bs.out.set HM.out (by decide) 3 (.int .i64 en));obtain⟨W2,c8⟩:=ex (W1.setCell ⟨R,3,none⟩ (.int .i64 en));rw[← c8]at bz c6 c7;rw[← c8];clear c8 bl bw bx HM ax bs;have f:=Hq c6.out.drew;have r:=Hq (c7.out.below (Below.refl _ W2).drew);have l:=Hq (Ae bz.out (Below.refl _ W2).drew);clear bz c6 c7;have di:=bd.out;have dj:=bf.out;have dm:=bg.out;have dn:(q:Int)≤(t.size:Int):=(by have:=bh.out;omega);have dp:(0:Int)≤(q:Int):=(by omega);refine Ep (S:=(fun u=>u.heap[w.heap.size+1]? =some (.cells #[fr,n,en,sf,t] 30 (0,0))∧u.heap[R]? =some (.cells #[fr,n,en,en,t] 30 (0,0)))) 14 Kr ?_ (fun a=>?_)
    ·first|exact hSn|exact⟨f.out.Am,l.out⟩
    refine Tl 0 [14] ?_;refine Tl 1 [14] ?_;refine sL 2 [14] Fi ?_;refine sL 4 [14] Fi ?_;refine Tl 8 [14] ?_;refine Tl 9 [14] ?_;refine Tl 10 [14] ?_;refine Bj (rs:=[3]) Kr (by simp) ?_;refine Ax.cons (o:={dst:=some 88,op:=_,type:=_,pos:=_,after:=_,guard:=_}) rfl (fun K j=>?_) ?_
    rotate_left
    ·exact Ax.nil
    go_simp
    refine(bb.out _).mono ?_;rintro e wg ⟨rfl,b⟩;have r:=Hq (r.out.below b);have f:=Hq (f.out.step b);have l:=Hq (Ae l.out b);clear b;(try clear hSn);have hSn:=And.intro f.out.Am l.out;refine Bq j (fun a=>?_) (by first|exact hSn|exact⟨f.out.Am,l.out⟩);clear j K;refine Bj (rs:=[5]) Kr (by simp) ?_;refine Ax.cons (o:={dst:=some 90,op:=_,type:=_,pos:=_,after:=_,guard:=_}) rfl (fun K j=>?_) ?_
    rotate_left
    ·exact Ax.nil
    go_simp
    refine(ag.out _).mono ?_;rintro e wh ⟨rfl,b⟩;have r:=Hq (r.out.below b);have f:=Hq (f.out.step b);have l:=Hq (Ae l.out b);clear b;(try clear hSn);have hSn:=And.intro f.out.Am l.out;have bw:=Aa l.out;have bx:=Ap l.out;refine Bq j (fun a=>?_) (by first|exact hSn|exact⟨f.out.Am,l.out⟩);clear j K;refine Tl 6 [14] ?_;refine Tl 7 [14] ?_;refine Tl 11 [14] ?_;refine Tl 12 [14] ?_;refine Tl 13 [14] ?_;refine Bj (rs:=[14]) Kr (by simp) ?_;refine Ax.last (o:={dst:=none,op:=_,type:=_,pos:=_,after:=_,guard:=_}) rfl Kr (fun K j=>?_) ?_
    rotate_left
    ·exact Ax.nil
    go_simp
    have ca:=Hq (show(wh.setCell ⟨R,4,none⟩ (.string (t.extract q t.size))).heap[R]? =some (.cells #[fr,n,en,en,.string (t.extract q t.size)] 30 (0,0))from by have h:=Cb 4 l.out (.string (t.extract q t.size));simpa using h);have cx:=Hq (f.out.under (M:=R) (by show w.heap.size+4≤R;exact br) ((Below.refl R wh).setCell (p:=⟨R,4,none⟩) (Nat.le_refl R) (.string (t.extract q t.size))));have cy:=Hq (r.out.set l.out (by decide) 4 (.string (t.extract q t.size)));refine j.out _ _ ?_;clear j K
    try simp only[Act.put,pS]
    refine Eo Kr ?_ _
    (try clear a)
    clear hSn bw bx l f r di dj dm dn dp;obtain⟨W3,cb⟩:=ex (wh.setCell ⟨R,4,none⟩ (.string (t.extract q t.size)));rw[← cb]at ca cx cy;rw[← cb];clear cb;obtain⟨aj,b8⟩:=ex (t.extract q t.size);rw[← b8]at ca av;clear b8;go_upto_region 19 with fail;have HD:=Hq cx.out.drew;have X0:=HD.out.Ai;have Y0:=Ae ca.out (Below.refl _ W3).drew;refine Gd (S:=(fun u=>u.heap[w.heap.size]? =some (.cells #[.slice A2 d2.sectors.length c2,d2.left,d2.down] 28 (0,0))∧u.heap[R]? =some (.cells #[fr,n,en,en,aj] 30 (0,0)))) (fun a=>?_) (by first|exact hSn|exact⟨X0,Y0⟩);refine Nk 0 Cu ?_;refine Nk 1 Fi ?_;refine Ch 2 fun K j=>?_;refine Ay (by rfl) ?_;refine sW #[.slice A2 d2.sectors.length c2,d2.left,d2.down] HD.out.Cj ?_;have HE:=Hq (HD.out.row 2 #[.slice A2 d2.sectors.length c2,d2.left,d2.down] _ rfl);have X1:=HE.out.Ai;have Y1:=((Ah _ (w.heap.size+2) #[.slice A2 d2.sectors.length c2,d2.left,d2.down] R (by omega)).trans Y0);have hSn:=And.intro X1 Y1;refine Bq j (fun a=>?_) (by first|exact hSn|exact⟨X0,Y0⟩);clear j K
    try simp only[Act.put]
    refine Ch 3 fun K j=>?_;refine Ay (by rfl) ?_;refine sW #[fr,n,en,en,aj] HE.out.g3 ?_;have l:=Hq (HE.out.row 3 #[fr,n,en,en,aj] _ rfl)
    try clear hSn
    have hSn:=And.intro l.out.Ai ((Ah _ (w.heap.size+3) #[fr,n,en,en,aj] R (by omega)).trans Y1);refine Bq j (fun a=>?_) (by first|exact hSn|exact⟨X0,Y0⟩);clear j K
    try simp only[Act.put]
    refine Au 4 ?_;refine wpAnyH_done Kr ?_ _;clear a hSn;go_wp2_with fail;refine bodyPost_ret (v:=.tuple #[.agg #[.slice A2 d2.sectors.length c2,d2.left,d2.down],.agg #[fr,n,en,en,aj],()]) (Et rfl _ _ rfl rfl (Ci l.out.Cj Cu Kr Kr) (Ci l.out.g3 Fi Kr Kr) rfl) rfl ?_;have k1:=cy.out.below (Below.refl _ W3).drew;have k2:=k1.row HD.out.Cj (by decide) #[.slice A2 d2.sectors.length c2,d2.left,d2.down];exact HO.out A2 c2 _ (d2,⟨fr,n,en,en,aj⟩,0) (Z.out.trans (by rw[av.out])) (k2.row HE.out.g3 (by decide) _) l.out.below
   ·obtain⟨k,rfl⟩:=Int.eq_ofNat_of_zero_le (show 0≤x by omega)
    have dq:k≤m:=(by omega);have dy:(0:Int)≤(k:Int):=(by omega);rw[show((k:Int)+1).toNat=k+1 by omega]at a1;have ay:=Hq (fun W=>bc.out k dq W);generalize hy:all[k]?.getD ⟨#[]⟩=y at ay;have I:=Hq (fun W hW=>Nh d2 b7.out A2 c2 (fr+F+(k:Int)) y W hW);have ad:= @Lg.Lm d2 (fr+F+(k:Int)) y b7.out;rcases hx:Lg.Bz d2 (fr+F+(k:Int)) y with⟨d3,V⟩;have O:=Hq (fun(J:V=0)=>Lg.O4 (base:=fr+F) (all:=all) (k:=k) (d:=d2) (d2:=d3) (by rw[hy,hx,J]));have H:=Hq (fun(J:V≠0)=>Lg.Ln (base:=fr+F) (all:=all) (k:=k) (d:=d2) (d2:=d3) J (by rw[hy,hx]));rw[hx]at I ad;simp only at ad;have bm:=Hq ad;clear hx ad h0 hy;have bn:IntKind.i64.wrap (fr+F)=fr+F:=IntWalk.i64_in _ (by omega);have bo:IntKind.i64.wrap (fr+F+(k:Int))=fr+F+(k:Int):=IntWalk.i64_in _ (by omega);go_upto_region 12 with fail
    go_cut [11,12] (fun p q wc=>∃ (g:Nat) (s:Option Addr) (c3:Nat),p= .pointer (some ⟨g,0,none⟩)∧q= .int .i64 V∧D6 w.heap.size w [(#[.slice A2 d2.sectors.length c2,d2.left,d2.down],28),(#[fr,n,en,sf,t],30),(#['s',(),false],28),(#[(),(),(),(),""],30)] wc∧w.heap.size+4≤g∧wc.heap[g]? =some (.cells #[.slice s d3.sectors.length c3,d3.left,d3.down] 28 (0,0))∧Wx w.heap.size wc d3 A s c3)
    case first=>
     have f:=a7;have r:=L;clear a7 L O H HO X a6 bc bb av bd bf bg bh a1;have f:=Hq f.out.drew;have r:=Hq (r.out.below (Below.refl _ wr).drew);refine Gd (S:=(fun u=>u.heap[w.heap.size]? =some (.cells #[.slice A2 d2.sectors.length c2,d2.left,d2.down] 28 (0,0))∧u.heap[w.heap.size+1]? =some (.cells #[fr,n,en,sf,t] 30 (0,0)))) (fun a=>?_) ⟨f.out.Ai,f.out.Am⟩;refine Nk 0 Cu ?_;refine Au 1 ?_;refine Au 2 ?_;refine Nk 3 Fi ?_;refine Au 6 ?_;refine Au 8 ?_;refine Au 9 ?_;refine Au 10 ?_;refine wpAnyH_ready (rs:=[4,16]) Kr (by simp) ?_;refine(AllReadyH.cons (o:={dst:=some 64,op:=_,type:=_,pos:=_,after:=_,guard:=_}) rfl (fun K j=>?_) (AllReadyH.cons (o:={dst:=some 11,op:=_,type:=_,pos:=_,after:=_,guard:=_}) rfl (fun K j=>?_) AllReadyH.nil))
     ·
      go_simp
      refine(ag.out _).mono ?_;rintro e wf ⟨rfl,b⟩;have r:=Hq (r.out.below b);have f:=Hq (f.out.step b);clear b;(try clear hSn);have hSn:=And.intro f.out.Ai f.out.Am;refine Bq j (fun a=>?_);clear j K;refine Au 5 ?_;refine Au 7 ?_;refine wpAnyH_ready (rs:=[11,16]) Kr (by simp) ?_;refine(AllReadyH.cons (o:={dst:=some 71,op:=_,type:=_,pos:=_,after:=_,guard:=_}) rfl (fun K j=>?_) (AllReadyH.cons (o:={dst:=some 11,op:=_,type:=_,pos:=_,after:=_,guard:=_}) rfl (fun K j=>?_) AllReadyH.nil))
      ·
       go_simp
       refine(ay.out _).mono ?_;rintro e N ⟨rfl,b⟩;have r:=Hq (r.out.below b);have f:=Hq (f.out.step b);clear b;(try clear hSn);have hSn:=And.intro f.out.Ai f.out.Am;refine Bq j (fun a=>?_);clear j K;refine wpAnyH_ready (rs:=[12,16]) Kr (by simp) ?_;refine(AllReadyH.cons (o:={dst:=some 72,op:=_,type:=_,pos:=_,after:=_,guard:=_}) rfl (fun K j=>?_) (AllReadyH.cons (o:={dst:=some 11,op:=_,type:=_,pos:=_,after:=_,guard:=_}) rfl (fun K j=>?_) AllReadyH.nil))
       ·
        go_simp
        refine(I.out _ r.out.dk).mono ?_;rintro e ww ⟨s,c3,rfl,D,E,b⟩;have r:=Hq (r.out.put (by have:=f.out.lt (i:=3) (by simp);omega) D E b);have f:=Hq (f.out.step b);clear b D E;(try clear hSn);have hSn:=And.intro f.out.Ai f.out.Am;refine Bq j (fun a=>?_);clear j K;refine Au 13 ?_;refine Au 14 ?_;refine Au 15 ?_;refine Ch 16 fun K j=>?_
        go_simp
        have B:w.heap.size+4≤ww.heap.size:=f.out.lt (i:=3) (by simp);have r:=Hq (r.out.below (Ab ww (.cells #['s',(),false] 28)));have f:=Hq (f.out.step (Ab ww (.cells #['s',(),false] 28)));have l:=Hq (heap_alloc_new ww (.cells #['s',(),false] 28));(try clear hSn);have hSn:=And.intro f.out.Ai f.out.Am;refine Bq j (fun a=>?_);clear j K;refine Ch 17 fun K j=>?_;refine Ay (by rfl) ?_;refine sW #[.slice s d3.sectors.length c3,d3.left,d3.down] l.out ?_;have r:=Hq (r.out.row l.out (by decide) #[.slice s d3.sectors.length c3,d3.left,d3.down]);have f:=Hq (f.out.under (M:=ww.heap.size) (by show w.heap.size+4≤_;exact B) (below_setRow (Below.refl ww.heap.size (ww.alloc (.cells #['s',(),false] 28))) (Nat.le_refl ww.heap.size) #[.slice s d3.sectors.length c3,d3.left,d3.down]));have l:=Hq (show((ww.alloc (.cells #['s',(),false] 28)).setRow ww.heap.size #[.slice s d3.sectors.length c3,d3.left,d3.down]).heap[ww.heap.size]? =some (.cells #[.slice s d3.sectors.length c3,d3.left,d3.down] 28 (0,0))from setRow_heap _ _ _ _ _ _ l.out)
        (try clear hSn);have hSn:=And.intro f.out.Ai f.out.Am
        refine Bq j (fun a=>?_);clear j K
        try simp only[Act.put]
        refine Au 18 ?_;refine wpAnyH_done Kr ?_ _;clear a hSn;go_wp2_with fail;go_meet
        case rel=>exact⟨_,s,c3,rfl,rfl,f.out,B,l.out,r.out⟩
       ·
        go_simp
        have B:w.heap.size+4≤N.heap.size:=f.out.lt (i:=3) (by simp);have r:=Hq (r.out.below (Ab N (.cells #['s',(),false] 28)));have f:=Hq (f.out.step (Ab N (.cells #['s',(),false] 28)));have l:=Hq (heap_alloc_new N (.cells #['s',(),false] 28));(try clear hSn);have hSn:=And.intro f.out.Ai f.out.Am;refine Bq j (fun a=>?_);clear j K;refine Ch 12 fun K j=>?_
        go_simp
        refine(I.out _ r.out.dk).mono ?_;rintro e ww ⟨s,c3,rfl,D,E,b⟩;have r:=Hq (r.out.put (by have:=f.out.lt (i:=3) (by simp);omega) D E b);have f:=Hq (f.out.step b);have l:=Hq (Ae l.out b);clear b D E;(try clear hSn);have hSn:=And.intro f.out.Ai f.out.Am;refine Bq j (fun a=>?_);clear j K;refine Au 13 ?_;refine Au 14 ?_;refine Au 15 ?_;refine Ch 17 fun K j=>?_;refine Ay (by rfl) ?_;refine sW #[.slice s d3.sectors.length c3,d3.left,d3.down] l.out ?_;have r:=Hq (r.out.row l.out (by decide) #[.slice s d3.sectors.length c3,d3.left,d3.down]);have f:=Hq (f.out.under (M:=N.heap.size) (by show w.heap.size+4≤_;exact B) (below_setRow (Below.refl N.heap.size ww) (Nat.le_refl N.heap.size) #[.slice s d3.sectors.length c3,d3.left,d3.down]));have l:=Hq (show(ww.setRow N.heap.size #[.slice s d3.sectors.length c3,d3.left,d3.down]).heap[N.heap.size]? =some (.cells #[.slice s d3.sectors.length c3,d3.left,d3.down] 28 (0,0))from setRow_heap _ _ _ _ _ _ l.out)
        (try clear hSn);have hSn:=And.intro f.out.Ai f.out.Am
        refine Bq j (fun a=>?_);clear j K
        try simp only[Act.put]
        refine Au 18 ?_;refine wpAnyH_done Kr ?_ _;clear a hSn;go_wp2_with fail;go_meet
        case rel=>exact⟨_,s,c3,rfl,rfl,f.out,B,l.out,r.out⟩
      ·
       go_simp
       have B:w.heap.size+4≤wf.heap.size:=f.out.lt (i:=3) (by simp);have r:=Hq (r.out.below (Ab wf (.cells #['s',(),false] 28)));have f:=Hq (f.out.step (Ab wf (.cells #['s',(),false] 28)));have l:=Hq (heap_alloc_new wf (.cells #['s',(),false] 28));(try clear hSn);have hSn:=And.intro f.out.Ai f.out.Am;refine Bq j (fun a=>?_);clear j K;refine Ch 11 fun K j=>?_
       go_simp
       refine(ay.out _).mono ?_;rintro e N ⟨rfl,b⟩;have r:=Hq (r.out.below b);have f:=Hq (f.out.step b);have l:=Hq (Ae l.out b);clear b;(try clear hSn);have hSn:=And.intro f.out.Ai f.out.Am;refine Bq j (fun a=>?_);clear j K;refine Ch 12 fun K j=>?_
       go_simp
       refine(I.out _ r.out.dk).mono ?_;rintro e ww ⟨s,c3,rfl,D,E,b⟩;have r:=Hq (r.out.put (by have:=f.out.lt (i:=3) (by simp);omega) D E b);have f:=Hq (f.out.step b);have l:=Hq (Ae l.out b);clear b D E;(try clear hSn);have hSn:=And.intro f.out.Ai f.out.Am;refine Bq j (fun a=>?_);clear j K;refine Au 13 ?_;refine Au 14 ?_;refine Au 15 ?_;refine Ch 17 fun K j=>?_;refine Ay (by rfl) ?_;refine sW #[.slice s d3.sectors.length c3,d3.left,d3.down] l.out ?_;have r:=Hq (r.out.row l.out (by decide) #[.slice s d3.sectors.length c3,d3.left,d3.down]);have f:=Hq (f.out.under (M:=wf.heap.size) (by show w.heap.size+4≤_;exact B) (below_setRow (Below.refl wf.heap.size ww) (Nat.le_refl wf.heap.size) #[.slice s d3.sectors.length c3,d3.left,d3.down]));have l:=Hq (show(ww.setRow wf.heap.size #[.slice s d3.sectors.length c3,d3.left,d3.down]).heap[wf.heap.size]? =some (.cells #[.slice s d3.sectors.length c3,d3.left,d3.down] 28 (0,0))from setRow_heap _ _ _ _ _ _ l.out)
       (try clear hSn);have hSn:=And.intro f.out.Ai f.out.Am
       refine Bq j (fun a=>?_);clear j K
       try simp only[Act.put]
       refine Au 18 ?_;refine wpAnyH_done Kr ?_ _;clear a hSn;go_wp2_with fail;go_meet
       case rel=>exact⟨_,s,c3,rfl,rfl,f.out,B,l.out,r.out⟩
     ·
      go_simp
      have B:w.heap.size+4≤wr.drew.heap.size:=f.out.lt (i:=3) (by simp);have r:=Hq (r.out.below (Ab wr.drew (.cells #['s',(),false] 28)));have f:=Hq (f.out.step (Ab wr.drew (.cells #['s',(),false] 28)));have l:=Hq (heap_alloc_new wr.drew (.cells #['s',(),false] 28));(try clear hSn);have hSn:=And.intro f.out.Ai f.out.Am;refine Bq j (fun a=>?_);clear j K;refine Ch 4 fun K j=>?_
      go_simp
      refine(ag.out _).mono ?_;rintro e wf ⟨rfl,b⟩;have r:=Hq (r.out.below b);have f:=Hq (f.out.step b);have l:=Hq (Ae l.out b);clear b;(try clear hSn);have hSn:=And.intro f.out.Ai f.out.Am;refine Bq j (fun a=>?_);clear j K;refine Au 5 ?_;refine Au 7 ?_;refine Ch 11 fun K j=>?_
      go_simp
      refine(ay.out _).mono ?_;rintro e N ⟨rfl,b⟩;have r:=Hq (r.out.below b);have f:=Hq (f.out.step b);have l:=Hq (Ae l.out b);clear b;(try clear hSn);have hSn:=And.intro f.out.Ai f.out.Am;refine Bq j (fun a=>?_);clear j K;refine Ch 12 fun K j=>?_
      go_simp
      refine(I.out _ r.out.dk).mono ?_;rintro e ww ⟨s,c3,rfl,D,E,b⟩;have r:=Hq (r.out.put (by have:=f.out.lt (i:=3) (by simp);omega) D E b);have f:=Hq (f.out.step b);have l:=Hq (Ae l.out b);clear b D E;(try clear hSn);have hSn:=And.intro f.out.Ai f.out.Am;refine Bq j (fun a=>?_);clear j K;refine Au 13 ?_;refine Au 14 ?_;refine Au 15 ?_;refine Ch 17 fun K j=>?_;refine Ay (by rfl) ?_;refine sW #[.slice s d3.sectors.length c3,d3.left,d3.down] l.out ?_;have r:=Hq (r.out.row l.out (by decide) #[.slice s d3.sectors.length c3,d3.left,d3.down]);have f:=Hq (f.out.under (M:=wr.drew.heap.size) (by show w.heap.size+4≤_;exact B) (below_setRow (Below.refl wr.drew.heap.size ww) (Nat.le_refl wr.drew.heap.size) #[.slice s d3.sectors.length c3,d3.left,d3.down]));have l:=Hq (show(ww.setRow wr.drew.heap.size #[.slice s d3.sectors.length c3,d3.left,d3.down]).heap[wr.drew.heap.size]? =some (.cells #[.slice s d3.sectors.length c3,d3.left,d3.down] 28 (0,0))from setRow_heap _ _ _ _ _ _ l.out)
      (try clear hSn);have hSn:=And.intro f.out.Ai f.out.Am
      refine Bq j (fun a=>?_);clear j K
      try simp only[Act.put]
      refine Au 18 ?_;refine wpAnyH_done Kr ?_ _;clear a hSn;go_wp2_with fail;go_meet
      case rel=>exact⟨_,s,c3,rfl,rfl,f.out,B,l.out,r.out⟩
    case rest=>
     obtain⟨g,s,c3,rfl,rfl,U,B,ao,aq⟩:=hcut;obtain⟨wb,rfl⟩:=ex wc;have P:=Hq U;have ah:=Hq ao;have ai:=Hq aq;clear U ao aq a7 L I bn bo
     by_cases J:V=0
     ·have bp:=Hq (a1.out.trans (O.out J))
      subst J;clear O H
      go_upto_region 11 with(first
       |with_reducible refine lL ah.out Cu ?_
       |with_reducible refine lS #[.slice s d3.sectors.length c3,d3.left,d3.down] P.out.Ai ?_)
      have cz:=Hq (show D6 w.heap.size w [(#[.slice s d3.sectors.length c3,d3.left,d3.down],28),(#[fr,n,en,sf,t],30),(#['s',(),false],28),(#[(),(),(),(),""],30)] (wb.setRow w.heap.size #[.slice s d3.sectors.length c3,d3.left,d3.down])from by have h:=P.out.row 0 #[.slice s d3.sectors.length c3,d3.left,d3.down] _ rfl;simpa using h);have da:=Hq (ai.out.row P.out.Ai (by decide) #[.slice s d3.sectors.length c3,d3.left,d3.down]);obtain⟨W4,cc⟩:=ex (wb.setRow w.heap.size #[.slice s d3.sectors.length c3,d3.left,d3.down]);rw[← cc]at cz da;rw[← cc];clear cc P ah ai;have dz:IntKind.i64.wrap ((k:Int)-1)=(k:Int)-1:=IntWalk.i64_in _ (by omega);go_wp2_with fail;go_roundw
      case rel=>exact⟨(k:Int)-1,d3,s,c3,rfl,by omega,by omega,by rw[show((k:Int)-1+1).toNat=k by omega];exact bp.out,cz.out,da.out,bm.out⟩
      case measure=>first|(simp[intOf];done)|(simp[intOf];omega)
     ·have Z:=Hq (X.out d3 V J (a1.out.trans (H.out J)))
      have ae:(V==0)=false:=(by simpa using J);have bq:(V != 0)=true:=(by simpa using J);clear O H J;go_upto_region 14 with fail;clear ae bq;have HD:=Hq P.out.drew;have X0:=Ae ah.out (Below.refl _ wb).drew;have Y0:=HD.out.Am;refine Gd (S:=(fun u=>u.heap[g]? =some (.cells #[.slice s d3.sectors.length c3,d3.left,d3.down] 28 (0,0))∧u.heap[(w.heap.size+1)]? =some (.cells #[fr,n,en,sf,t] 30 (0,0)))) (fun a=>?_) (by first|exact hSn|exact⟨X0,Y0⟩);refine Nk 0 Cu ?_;refine Nk 1 Fi ?_;refine Au 2 ?_;refine Ch 3 fun K j=>?_;refine Ay (by rfl) ?_;refine sW #[.slice s d3.sectors.length c3,d3.left,d3.down] HD.out.Cj ?_;have HE:=Hq (HD.out.row 2 #[.slice s d3.sectors.length c3,d3.left,d3.down] _ rfl);have X1:=((Ah _ (w.heap.size+2) #[.slice s d3.sectors.length c3,d3.left,d3.down] g (by omega)).trans X0);have Y1:=HE.out.Am;have hSn:=And.intro X1 Y1;refine Bq j (fun a=>?_) (by first|exact hSn|exact⟨X0,Y0⟩);clear j K
      try simp only[Act.put]
      refine Ch 4 fun K j=>?_;refine Ay (by rfl) ?_;refine sW #[fr,n,en,sf,t] HE.out.g3 ?_;have l:=Hq (HE.out.row 3 #[fr,n,en,sf,t] _ rfl)
      try clear hSn
      have hSn:=And.intro ((Ah _ (w.heap.size+3) #[fr,n,en,sf,t] g (by omega)).trans X1) l.out.Am;refine Bq j (fun a=>?_) (by first|exact hSn|exact⟨X0,Y0⟩);clear j K
      try simp only[Act.put]
      refine Au 5 ?_;refine wpAnyH_done Kr ?_ _;clear a hSn;go_wp2_with fail;refine bodyPost_ret (v:=.tuple #[.agg #[.slice s d3.sectors.length c3,d3.left,d3.down],.agg #[fr,n,en,sf,t],V]) (Et rfl _ _ rfl rfl (Ci l.out.Cj Cu Kr Kr) (Ci l.out.g3 Fi Kr Kr) rfl) rfl ?_;have k1:=ai.out.below (Below.refl _ wb).drew;have k2:=k1.row HD.out.Cj (by decide) #[.slice s d3.sectors.length c3,d3.left,d3.down];exact HO.out s c3 _ (d3,⟨fr,n,en,sf,t⟩,V) Z.out (k2.row HE.out.g3 (by decide) _) l.out.below
theorem dB (d:Lg.Dk)(b: -9223372036854775808≤d.left∧d.left≤9223372036854775807)(A:Option Addr)(c:Nat)(l:Lg.Lo)(a:Lg.Al l)(e:l.end_≤1000000000)(f: -1000000000≤l.n)(g:l.n≤1000000000)(i: -1000000000≤l.from_)(j:l.from_≤1000000000)(p:l.tail.size≤1000000)(w:World)(h:Ca w d A c)(q:Cp 0 w 9 A):
 Cq 236 #[Cv d A c,Kv l] w (Fj (Lg.Az d l) A w):=by
 obtain⟨o,n,en,sf,k⟩:=l;have r:0≤sf:=a.s0;have t:sf≤en:=a.se;have s:en-(k.size:Int)=sf-sf%128:=a.tl
 by_cases m:sf=en
 ·subst m
  exact Zq d A c o n sf k _ (Lg.R3 rfl) w h
 ·exact jY d b A c o n en sf k (by omega) r e f g i j p s w h q
end Go.Proofs.YtmldoihahndcgaaGreatDoor
