import Derived.Test.YtdfkambdagoojaaGreatDoorHd00
import Derived.Test.YtdfkambdagoojaaGreatDoorHd19
set_option maxRecDepth 100000
set_option maxHeartbeats 16000000
set_option linter.unusedSimpArgs false
namespace Go.Proofs.YtdfkambdagoojaaGreatDoor
open Go.RowKit
def Jn (r:Rc.Rec)(w:World)(e:Ending)(w':World):Prop:=
 ∃ A c B d,e= .returned (Dp r (.slice A r.txns.length c) (.slice B r.dirty.length d))∧L7 w.heap.size w' r A c B d∧Bw w w'
theorem Hj {w c u:World}{g:Nat}(e:g=w.heap.size)(a:Bw w c)(f:c.heap.size=g+2)(b:C7 c.heap.size (g+1) c u)(cs:Array Value):Bw w (u.setRow g cs):=by
 refine⟨b.os.trans a.os,b.tape.trans a.tape,b.output.trans a.output,?_,fun k d=>?_⟩
 ·show _≤(u.heap.modify _ _).size
  have h:=a.size;have i:=b.size
  simp
  omega
 ·exact(Aw _ _ _ _ (by omega)).trans ((b.block k (by omega) (by omega)).trans (a.block k d))
theorem xI (s:ByteArray)(k:s.size≤1000000)(s1:Rc.St)(A:Rc.Bm false s.data.toList ⟨0,false⟩ 1=(3,s1))(w:World):
 Cq 101 #[s] w (Jn (Rc.Cd false s.data.toList) w):=by
 have hl:s.data.toList.length=s.size:=by simp
 have Z:=Rc.Bn A (Nat.zero_le _);have C0:=Hq (fun w1 b l u (f:Ri w1 b s ⟨0,false⟩ l u)=>f.Wa A k (Nat.zero_le _));rcases B:Rc.Bm false s.data.toList s1 6 with⟨a,s2⟩;have a2:=Rc.Bn B Z;have C1:=Hq (fun w1 b l u (f:Ri w1 b s s1 l u)=>f.Kz B k (by omega));rcases C:Rc.Bm false s.data.toList s2 6 with⟨prev,s3⟩;have a3:=Rc.Bn C a2;have C2:=Hq (fun w1 b l u (f:Ri w1 b s s2 l u)=>f.Kz C k (by omega));rcases D:Rc.Bm false s.data.toList s3 6 with⟨c,E⟩;have a4:=Rc.Bn D a3;have C3:=Hq (fun w1 b l u (f:Ri w1 b s s3 l u)=>f.Kz D k (by omega));rcases F:Rc.Bm false s.data.toList E 3 with⟨pg,K⟩;have a5:=Rc.Bn F a4;have C4:=Hq (fun w1 b l u (f:Ri w1 b s E l u)=>f.oU F k (by omega));rcases G:Rc.Tb false s.data.toList K with⟨o,L⟩;have a6:=Rc.Xu G a5;have C5:=Hq (fun w1 b l u (f:Ri w1 b s K l u)=>f.op G k (by omega));rcases I:Rc.Bm false s.data.toList L 6 with⟨p,s7⟩;have a7:=Rc.Bn I a6;have C6:=Hq (fun w1 b l u (f:Ri w1 b s L l u)=>f.Kz I k (by omega));have e0:Rc.Hb false s.data.toList=(Rc.bare 3 a prev c,E):=by
  unfold Rc.Hb;simp only[A,B,C,D]
 have RD:Rc.Cd false s.data.toList=⟨a,prev,c,3,pg,p,0,o,0,0,Rc.D6,[],[]⟩:=by
  unfold Rc.Cd;rw[e0]
  show Rc.Gb false _ (Rc.bare 3 a prev c) E=_
  rw[Rc.jL rfl];simp only[F,G,I]
  rfl
 have M:=Hq RD;clear RD;clear A B C D F G I Z a2 a3 a4 a5 a6 a7 e0;go_enter Tryz.func101,Tryz.ntmps101;go_upto_region 2 with fail;obtain⟨g,m⟩:=ex w.heap.size;obtain⟨w1,i⟩:=ex ((w.alloc (.cells Dl 47)).alloc (.cells #[s,(),false] 173));have j:(w.alloc (.cells Dl 47)).heap.size=g+1:=by rw[m];simp
 have n:w1.heap.size=g+2:=by rw[i,m];simp
 have q:Bw w w1:=by rw[i];exact Ak (Ag _ _)
 have HI:Hid (Ri w1 (g+1) s ⟨0,false⟩ [] w1):=Hq (Ri.start (by rw[i,← j];exact heap_alloc_new _ _));have N:Hid (w1.heap[g]? =some (.cells Dl 47 (0,0))):=Hq (by rw[i,m];exact Km _ _ _);have O:=Hq (fun u (hk:C7 w1.heap.size (g+1) w1 u) cs=>Hj m q n hk cs);have a8:=Hq (Nat.le_of_eq m.symm);have P:=Hq n;rw[← i,← m];clear m i j q n
 go_upto_region 3 with(first|(go_at_call 148;(with_reducible refine(C0.out _ _ _ _ HI.out).mono ?_);rintro e v0 ⟨rfl,r⟩)|(go_at_call 148;(with_reducible refine(C1.out _ _ _ _ r).mono ?_);rintro e v1 ⟨rfl,t⟩)|(go_at_call 148;(with_reducible refine(C2.out _ _ _ _ t).mono ?_);rintro e v2 ⟨rfl,v⟩)|(go_at_call 148;(with_reducible refine(C3.out _ _ _ _ v).mono ?_);rintro e v3 ⟨rfl,y⟩)|with_reducible refine sN (Bt a prev c 3 0 0 0 0 0 ⟨#[]⟩ ⟨#[]⟩ 0 0 ⟨#[]⟩ 0 0 (.slice none 0 0) (.slice none 0 0)) ?_)
 have H:=Hq (y.alloc (Bt a prev c 3 0 0 0 0 0 ⟨#[]⟩ ⟨#[]⟩ 0 0 ⟨#[]⟩ 0 0 (.slice none 0 0) (.slice none 0 0)) 47);obtain⟨x,Q⟩:=ex v3.heap.size;obtain⟨W,d⟩:=ex (v3.alloc (.cells (Bt a prev c 3 0 0 0 0 0 ⟨#[]⟩ ⟨#[]⟩ 0 0 ⟨#[]⟩ 0 0 (.slice none 0 0) (.slice none 0 0)) 47));rw[← Q,← d]at H;rw[← Q,← d];simp only[List.nil_append]at H;clear Q d r t v y HI C0 C1 C2 C3;have R:=Aa H.out.Am;go_upto_region 7 with fail;clear R
 go_upto_region 8 with(go_at_call 148;(with_reducible refine(C4.out _ _ _ _ H.out).mono ?_);rintro e u0 ⟨rfl,h⟩;(try dsimp only[Ou]);have K0:=Hq h;have S:=Aa h.Am;have T:=Aj h.Am;clear h)
 have U:=Hq (show Ri w1 (g+1) s K [(x,(Bt a prev c 3 pg 0 0 0 0 ⟨#[]⟩ ⟨#[]⟩ 0 0 ⟨#[]⟩ 0 0 (.slice none 0 0) (.slice none 0 0)),47)] (u0.setCell ⟨x,4,none⟩ (.int .i64 pg))from by have h:=(K0.out.set 0 4 (.int .i64 pg) _ rfl);simpa using h);obtain⟨W0,d⟩:=ex (u0.setCell ⟨x,4,none⟩ (.int .i64 pg));rw[← d]at U;rw[← d];clear d H K0 S T C4
 go_upto_region 9 with(go_at_call 150;(with_reducible refine(C5.out _ _ _ _ U.out).mono ?_);rintro e u1 ⟨rfl,h⟩;(try dsimp only[Ou]);have K1:=Hq h;have V:=Aa h.Am;have j:=Aj h.Am;clear h)
 have H1:=Hq (show Ri w1 (g+1) s L [(x,(Bt a prev c 3 pg 0 0 o.kind o.slot o.A5 o.new 0 0 ⟨#[]⟩ 0 0 (.slice none 0 0) (.slice none 0 0)),47)] ((((u1.setCell ⟨x,7,none⟩ (.int .i64 o.kind)).setCell ⟨x,8,none⟩ (.int .i64 o.slot)).setCell ⟨x,9,none⟩ (.string o.A5)).setCell ⟨x,10,none⟩ (.string o.new))from by have h:=((((K1.out.set 0 7 (.int .i64 o.kind) _ rfl).set 0 8 (.int .i64 o.slot) _ rfl).set 0 9 (.string o.A5) _ rfl).set 0 10 (.string o.new) _ rfl);simpa using h);obtain⟨W1,d⟩:=ex ((((u1.setCell ⟨x,7,none⟩ (.int .i64 o.kind)).setCell ⟨x,8,none⟩ (.int .i64 o.slot)).setCell ⟨x,9,none⟩ (.string o.A5)).setCell ⟨x,10,none⟩ (.string o.new));rw[← d]at H1;rw[← d];clear d U K1 V j C5
 go_upto_region 17 with(go_at_call 148;(with_reducible refine(C6.out _ _ _ _ H1.out).mono ?_);rintro e u2 ⟨rfl,h⟩;(try dsimp only[Ou]);have K2:=Hq h;have X:=Aa h.Am;have Y:=Aj h.Am;clear h)
 have J:=Hq (show Ri w1 (g+1) s s7 [(x,(Bt a prev c 3 pg p 0 o.kind o.slot o.A5 o.new 0 0 ⟨#[]⟩ 0 0 (.slice none 0 0) (.slice none 0 0)),47)] (u2.setCell ⟨x,5,none⟩ (.int .i64 p))from by have h:=(K2.out.set 0 5 (.int .i64 p) _ rfl);simpa using h);obtain⟨W2,d⟩:=ex (u2.setCell ⟨x,5,none⟩ (.int .i64 p));rw[← d]at J;rw[← d];clear d H1 K2 X Y C6;have z:=((J.out.kept.block g (by have:=P.out;omega) (by omega)).trans N.out)
 go_wp2_with(first
  |with_reducible refine lL J.out.Am Ca ?_
  |with_reducible refine lS (Bt a prev c 3 pg p 0 o.kind o.slot o.A5 o.new 0 0 ⟨#[]⟩ 0 0 (.slice none 0 0) (.slice none 0 0)) z ?_)
 refine rT1 z Ca ?_;rw[M.out];exact⟨none,0,none,0,rfl,⟨⟨Reads.none_ _ _ _ _,Reads.none_ _ _ _ _,⟨Nat.zero_le _,Nat.zero_le _⟩⟩,Df.none_ _ _ _,Df.none_ _ _ _⟩,O.out _ J.out.kept _⟩
theorem xJ (s:ByteArray)(n:s.size≤1000000)(s1:Rc.St)(z:Rc.Bm false s.data.toList ⟨0,false⟩ 1=(4,s1))(w:World):
 Cq 101 #[s] w (Jn (Rc.Cd false s.data.toList) w):=by
 have hl:s.data.toList.length=s.size:=by simp
 have P:=Rc.Bn z (Nat.zero_le _);have Q:=Hq (fun w1 b l u (f:Ri w1 b s ⟨0,false⟩ l u)=>f.Wa z n (Nat.zero_le _));rcases A:Rc.Bm false s.data.toList s1 6 with⟨a,s2⟩;have a2:=Rc.Bn A P;have R:=Hq (fun w1 b l u (f:Ri w1 b s s1 l u)=>f.Kz A n (by omega));rcases B:Rc.Bm false s.data.toList s2 6 with⟨prev,S⟩;have a3:=Rc.Bn B a2;have T:=Hq (fun w1 b l u (f:Ri w1 b s s2 l u)=>f.Kz B n (by omega));rcases C:Rc.Bm false s.data.toList S 6 with⟨c,D⟩;have a4:=Rc.Bn C a3;have U:=Hq (fun w1 b l u (f:Ri w1 b s S l u)=>f.Kz C n (by omega));rcases E:Rc.Bm false s.data.toList D 6 with⟨m,s5⟩;have a5:=Rc.Bn E a4;have V:=Hq (fun w1 b l u (f:Ri w1 b s D l u)=>f.Kz E n (by omega));have X:Rc.Hb false s.data.toList=(Rc.bare 4 a prev c,D):=by
  unfold Rc.Hb;simp only[z,A,B,C]
 have Y:Rc.Cd false s.data.toList=⟨a,prev,c,4,0,m,0,Rc.K9,0,0,Rc.D6,[],[]⟩:=by
  unfold Rc.Cd;rw[X]
  show Rc.Gb false _ (Rc.bare 4 a prev c) D=_
  rw[Rc.jM rfl];simp only[E]
  rfl
 have G:=Hq Y;clear Y;clear z A B C E P a2 a3 a4 a5 X;go_enter Tryz.func101,Tryz.ntmps101;go_upto_region 2 with fail;obtain⟨g,i⟩:=ex w.heap.size;obtain⟨w1,d⟩:=ex ((w.alloc (.cells Dl 47)).alloc (.cells #[s,(),false] 173));have o:(w.alloc (.cells Dl 47)).heap.size=g+1:=by rw[i];simp
 have j:w1.heap.size=g+2:=by rw[d,i];simp
 have p:Bw w w1:=by rw[d];exact Ak (Ag _ _)
 have Z:Hid (Ri w1 (g+1) s ⟨0,false⟩ [] w1):=Hq (Ri.start (by rw[d,← o];exact heap_alloc_new _ _));have I:Hid (w1.heap[g]? =some (.cells Dl 47 (0,0))):=Hq (by rw[d,i];exact Km _ _ _);have J:=Hq (fun u (hk:C7 w1.heap.size (g+1) w1 u) cs=>Hj i p j hk cs);have a6:=Hq (Nat.le_of_eq i.symm);have K:=Hq j;rw[← d,← i];clear i d o p j
 go_upto_region 3 with(first|(go_at_call 148;(with_reducible refine(Q.out _ _ _ _ Z.out).mono ?_);rintro e v0 ⟨rfl,q⟩)|(go_at_call 148;(with_reducible refine(R.out _ _ _ _ q).mono ?_);rintro e v1 ⟨rfl,r⟩)|(go_at_call 148;(with_reducible refine(T.out _ _ _ _ r).mono ?_);rintro e v2 ⟨rfl,t⟩)|(go_at_call 148;(with_reducible refine(U.out _ _ _ _ t).mono ?_);rintro e v3 ⟨rfl,v⟩)|with_reducible refine sN (Bt a prev c 4 0 0 0 0 0 ⟨#[]⟩ ⟨#[]⟩ 0 0 ⟨#[]⟩ 0 0 (.slice none 0 0) (.slice none 0 0)) ?_)
 have H:=Hq (v.alloc (Bt a prev c 4 0 0 0 0 0 ⟨#[]⟩ ⟨#[]⟩ 0 0 ⟨#[]⟩ 0 0 (.slice none 0 0) (.slice none 0 0)) 47);obtain⟨x,L⟩:=ex v3.heap.size;obtain⟨W,k⟩:=ex (v3.alloc (.cells (Bt a prev c 4 0 0 0 0 0 ⟨#[]⟩ ⟨#[]⟩ 0 0 ⟨#[]⟩ 0 0 (.slice none 0 0) (.slice none 0 0)) 47));rw[← L,← k]at H;rw[← L,← k];simp only[List.nil_append]at H;clear L k q r t v Z Q R T U;have M:=Aa H.out.Am;go_upto_region 11 with fail;clear M
 go_upto_region 17 with(go_at_call 148;(with_reducible refine(V.out _ _ _ _ H.out).mono ?_);rintro e u0 ⟨rfl,h⟩;(try dsimp only[Ou]);have K0:=Hq h;have N:=Aa h.Am;have O:=Aj h.Am;clear h)
 have F:=Hq (show Ri w1 (g+1) s s5 [(x,(Bt a prev c 4 0 m 0 0 0 ⟨#[]⟩ ⟨#[]⟩ 0 0 ⟨#[]⟩ 0 0 (.slice none 0 0) (.slice none 0 0)),47)] (u0.setCell ⟨x,5,none⟩ (.int .i64 m))from by have h:=(K0.out.set 0 5 (.int .i64 m) _ rfl);simpa using h);obtain⟨W0,k⟩:=ex (u0.setCell ⟨x,5,none⟩ (.int .i64 m));rw[← k]at F;rw[← k];clear k H K0 N O V;have y:=((F.out.kept.block g (by have:=K.out;omega) (by omega)).trans I.out)
 go_wp2_with(first
  |with_reducible refine lL F.out.Am Ca ?_
  |with_reducible refine lS (Bt a prev c 4 0 m 0 0 0 ⟨#[]⟩ ⟨#[]⟩ 0 0 ⟨#[]⟩ 0 0 (.slice none 0 0) (.slice none 0 0)) y ?_)
 refine rT1 y Ca ?_;rw[G.out];exact⟨none,0,none,0,rfl,⟨⟨Reads.none_ _ _ _ _,Reads.none_ _ _ _ _,⟨Nat.zero_le _,Nat.zero_le _⟩⟩,Df.none_ _ _ _,Df.none_ _ _ _⟩,J.out _ F.out.kept _⟩
theorem xK (s:ByteArray)(n:s.size≤1000000)(s1:Rc.St)(z:Rc.Bm false s.data.toList ⟨0,false⟩ 1=(8,s1))(w:World):
 Cq 101 #[s] w (Jn (Rc.Cd false s.data.toList) w):=by
 have hl:s.data.toList.length=s.size:=by simp
 have S:=Rc.Bn z (Nat.zero_le _);have T:=Hq (fun w1 b l u (f:Ri w1 b s ⟨0,false⟩ l u)=>f.Wa z n (Nat.zero_le _));rcases A:Rc.Bm false s.data.toList s1 6 with⟨a,s2⟩;have a2:=Rc.Bn A S;have U:=Hq (fun w1 b l u (f:Ri w1 b s s1 l u)=>f.Kz A n (by omega));rcases B:Rc.Bm false s.data.toList s2 6 with⟨prev,V⟩;have a3:=Rc.Bn B a2;have X:=Hq (fun w1 b l u (f:Ri w1 b s s2 l u)=>f.Kz B n (by omega));rcases C:Rc.Bm false s.data.toList V 6 with⟨c,D⟩;have a4:=Rc.Bn C a3;have Y:=Hq (fun w1 b l u (f:Ri w1 b s V l u)=>f.Kz C n (by omega));rcases E:Rc.Bm false s.data.toList D 3 with⟨pg,G⟩;have a5:=Rc.Bn E a4;have Z:=Hq (fun w1 b l u (f:Ri w1 b s D l u)=>f.oU E n (by omega));rcases F:Rc.Tb false s.data.toList G with⟨o,s6⟩;have a6:=Rc.Xu F a5;have C5:=Hq (fun w1 b l u (f:Ri w1 b s G l u)=>f.op F n (by omega));have e0:Rc.Hb false s.data.toList=(Rc.bare 8 a prev c,D):=by
  unfold Rc.Hb;simp only[z,A,B,C]
 have RD:Rc.Cd false s.data.toList=⟨a,prev,c,8,pg,0,0,o,0,0,Rc.D6,[],[]⟩:=by
  unfold Rc.Cd;rw[e0]
  show Rc.Gb false _ (Rc.bare 8 a prev c) D=_
  rw[Rc.jN rfl];simp only[E,F]
  rfl
 have I:=Hq RD;clear RD;clear z A B C E F S a2 a3 a4 a5 a6 e0;go_enter Tryz.func101,Tryz.ntmps101;go_upto_region 2 with fail;obtain⟨g,k⟩:=ex w.heap.size;obtain⟨w1,d⟩:=ex ((w.alloc (.cells Dl 47)).alloc (.cells #[s,(),false] 173));have j:(w.alloc (.cells Dl 47)).heap.size=g+1:=by rw[k];simp
 have m:w1.heap.size=g+2:=by rw[d,k];simp
 have p:Bw w w1:=by rw[d];exact Ak (Ag _ _)
 have HI:Hid (Ri w1 (g+1) s ⟨0,false⟩ [] w1):=Hq (Ri.start (by rw[d,← j];exact heap_alloc_new _ _));have J:Hid (w1.heap[g]? =some (.cells Dl 47 (0,0))):=Hq (by rw[d,k];exact Km _ _ _);have K:=Hq (fun u (hk:C7 w1.heap.size (g+1) w1 u) cs=>Hj k p m hk cs);have a7:=Hq (Nat.le_of_eq k.symm);have L:=Hq m;rw[← d,← k];clear k d j p m
 go_upto_region 3 with(first|(go_at_call 148;(with_reducible refine(T.out _ _ _ _ HI.out).mono ?_);rintro e v0 ⟨rfl,q⟩)|(go_at_call 148;(with_reducible refine(U.out _ _ _ _ q).mono ?_);rintro e v1 ⟨rfl,r⟩)|(go_at_call 148;(with_reducible refine(X.out _ _ _ _ r).mono ?_);rintro e v2 ⟨rfl,t⟩)|(go_at_call 148;(with_reducible refine(Y.out _ _ _ _ t).mono ?_);rintro e v3 ⟨rfl,v⟩)|with_reducible refine sN (Bt a prev c 8 0 0 0 0 0 ⟨#[]⟩ ⟨#[]⟩ 0 0 ⟨#[]⟩ 0 0 (.slice none 0 0) (.slice none 0 0)) ?_)
 have H:=Hq (v.alloc (Bt a prev c 8 0 0 0 0 0 ⟨#[]⟩ ⟨#[]⟩ 0 0 ⟨#[]⟩ 0 0 (.slice none 0 0) (.slice none 0 0)) 47);obtain⟨x,M⟩:=ex v3.heap.size;obtain⟨W,i⟩:=ex (v3.alloc (.cells (Bt a prev c 8 0 0 0 0 0 ⟨#[]⟩ ⟨#[]⟩ 0 0 ⟨#[]⟩ 0 0 (.slice none 0 0) (.slice none 0 0)) 47));rw[← M,← i]at H;rw[← M,← i];simp only[List.nil_append]at H;clear M i q r t v HI T U X Y;have N:=Aa H.out.Am;go_upto_region 13 with fail;clear N
 go_upto_region 14 with(go_at_call 148;(with_reducible refine(Z.out _ _ _ _ H.out).mono ?_);rintro e u0 ⟨rfl,h⟩;(try dsimp only[Ou]);have K0:=Hq h;have O:=Aa h.Am;have P:=Aj h.Am;clear h)
 have Q:=Hq (show Ri w1 (g+1) s G [(x,(Bt a prev c 8 pg 0 0 0 0 ⟨#[]⟩ ⟨#[]⟩ 0 0 ⟨#[]⟩ 0 0 (.slice none 0 0) (.slice none 0 0)),47)] (u0.setCell ⟨x,4,none⟩ (.int .i64 pg))from by have h:=(K0.out.set 0 4 (.int .i64 pg) _ rfl);simpa using h);obtain⟨W0,i⟩:=ex (u0.setCell ⟨x,4,none⟩ (.int .i64 pg));rw[← i]at Q;rw[← i];clear i H K0 O P Z
 go_upto_region 17 with(go_at_call 150;(with_reducible refine(C5.out _ _ _ _ Q.out).mono ?_);rintro e u1 ⟨rfl,h⟩;(try dsimp only[Ou]);have K1:=Hq h;have R:=Aa h.Am;have j:=Aj h.Am;clear h)
 have H1:=Hq (show Ri w1 (g+1) s s6 [(x,(Bt a prev c 8 pg 0 0 o.kind o.slot o.A5 o.new 0 0 ⟨#[]⟩ 0 0 (.slice none 0 0) (.slice none 0 0)),47)] ((((u1.setCell ⟨x,7,none⟩ (.int .i64 o.kind)).setCell ⟨x,8,none⟩ (.int .i64 o.slot)).setCell ⟨x,9,none⟩ (.string o.A5)).setCell ⟨x,10,none⟩ (.string o.new))from by have h:=((((K1.out.set 0 7 (.int .i64 o.kind) _ rfl).set 0 8 (.int .i64 o.slot) _ rfl).set 0 9 (.string o.A5) _ rfl).set 0 10 (.string o.new) _ rfl);simpa using h);obtain⟨W1,i⟩:=ex ((((u1.setCell ⟨x,7,none⟩ (.int .i64 o.kind)).setCell ⟨x,8,none⟩ (.int .i64 o.slot)).setCell ⟨x,9,none⟩ (.string o.A5)).setCell ⟨x,10,none⟩ (.string o.new));rw[← i]at H1;rw[← i];clear i Q K1 R j C5;have y:=((H1.out.kept.block g (by have:=L.out;omega) (by omega)).trans J.out)
 go_wp2_with(first
  |with_reducible refine lL H1.out.Am Ca ?_
  |with_reducible refine lS (Bt a prev c 8 pg 0 0 o.kind o.slot o.A5 o.new 0 0 ⟨#[]⟩ 0 0 (.slice none 0 0) (.slice none 0 0)) y ?_)
 refine rT1 y Ca ?_;rw[I.out];exact⟨none,0,none,0,rfl,⟨⟨Reads.none_ _ _ _ _,Reads.none_ _ _ _ _,⟨Nat.zero_le _,Nat.zero_le _⟩⟩,Df.none_ _ _ _,Df.none_ _ _ _⟩,K.out _ H1.out.kept _⟩
theorem xL (s:ByteArray)(r:s.size≤1000000)(s1:Rc.St)(kd:Int)(A:kd≠2)(B:kd≠3)(C:kd≠4)(D:kd≠8)(E:kd≠9)(t:Rc.Bm false s.data.toList ⟨0,false⟩ 1=(kd,s1))(w:World):
 Cq 101 #[s] w (Jn (Rc.Cd false s.data.toList) w):=by
 have hl:s.data.toList.length=s.size:=by simp
 have M:=Rc.Bn t (Nat.zero_le _);have N:=Hq (fun w1 b l u (f:Ri w1 b s ⟨0,false⟩ l u)=>f.Wa t r (Nat.zero_le _));rcases v:Rc.Bm false s.data.toList s1 6 with⟨a,s2⟩;have a2:=Rc.Bn v M;have O:=Hq (fun w1 b l u (f:Ri w1 b s s1 l u)=>f.Kz v r (by omega));rcases y:Rc.Bm false s.data.toList s2 6 with⟨prev,P⟩;have a3:=Rc.Bn y a2;have Q:=Hq (fun w1 b l u (f:Ri w1 b s s2 l u)=>f.Kz y r (by omega));rcases z:Rc.Bm false s.data.toList P 6 with⟨c,R⟩;have a4:=Rc.Bn z a3;have S:=Hq (fun w1 b l u (f:Ri w1 b s P l u)=>f.Kz z r (by omega));have T:Rc.Hb false s.data.toList=(Rc.bare kd a prev c,R):=by
  unfold Rc.Hb;simp only[t,v,y,z]
 have U:Rc.Cd false s.data.toList=⟨a,prev,c,kd,0,0,0,Rc.K9,0,0,Rc.D6,[],[]⟩:=by
  unfold Rc.Cd;rw[T]
  show Rc.Gb false _ (Rc.bare kd a prev c) R=_
  unfold Rc.Gb;have X:(Rc.bare kd a prev c).kind=kd:=rfl;rw[X,if_neg A,if_neg B,if_neg C,if_neg D,if_neg E]
  rfl
 have F:=Hq U;clear U;clear t v y z M a2 a3 a4 T;go_enter Tryz.func101,Tryz.ntmps101;go_upto_region 2 with fail;obtain⟨g,h⟩:=ex w.heap.size;obtain⟨w1,d⟩:=ex ((w.alloc (.cells Dl 47)).alloc (.cells #[s,(),false] 173));have j:(w.alloc (.cells Dl 47)).heap.size=g+1:=by rw[h];simp
 have i:w1.heap.size=g+2:=by rw[d,h];simp
 have k:Bw w w1:=by rw[d];exact Ak (Ag _ _)
 have V:Hid (Ri w1 (g+1) s ⟨0,false⟩ [] w1):=Hq (Ri.start (by rw[d,← j];exact heap_alloc_new _ _));have G:Hid (w1.heap[g]? =some (.cells Dl 47 (0,0))):=Hq (by rw[d,h];exact Km _ _ _);have I:=Hq (fun u (Y:C7 w1.heap.size (g+1) w1 u) cs=>Hj h k i Y cs);have Z:=Hq (Nat.le_of_eq h.symm);have J:=Hq i;rw[← d,← h];clear h d j k i
 go_upto_region 3 with(first|(go_at_call 148;(with_reducible refine(N.out _ _ _ _ V.out).mono ?_);rintro e v0 ⟨rfl,m⟩)|(go_at_call 148;(with_reducible refine(O.out _ _ _ _ m).mono ?_);rintro e v1 ⟨rfl,n⟩)|(go_at_call 148;(with_reducible refine(Q.out _ _ _ _ n).mono ?_);rintro e v2 ⟨rfl,o⟩)|(go_at_call 148;(with_reducible refine(S.out _ _ _ _ o).mono ?_);rintro e v3 ⟨rfl,p⟩)|with_reducible refine sN (Bt a prev c kd 0 0 0 0 0 ⟨#[]⟩ ⟨#[]⟩ 0 0 ⟨#[]⟩ 0 0 (.slice none 0 0) (.slice none 0 0)) ?_)
 have H:=Hq (p.alloc (Bt a prev c kd 0 0 0 0 0 ⟨#[]⟩ ⟨#[]⟩ 0 0 ⟨#[]⟩ 0 0 (.slice none 0 0) (.slice none 0 0)) 47);obtain⟨x,K⟩:=ex v3.heap.size;obtain⟨W,L⟩:=ex (v3.alloc (.cells (Bt a prev c kd 0 0 0 0 0 ⟨#[]⟩ ⟨#[]⟩ 0 0 ⟨#[]⟩ 0 0 (.slice none 0 0) (.slice none 0 0)) 47));rw[← K,← L]at H;rw[← K,← L];simp only[List.nil_append]at H;clear K L m n o p V N O Q S;have a6:=Aa H.out.Am;have q:=((H.out.kept.block g (by have:=J.out;omega) (by omega)).trans G.out)
 go_wp2_with(first
  |with_reducible refine lL H.out.Am Ca ?_
  |with_reducible refine lS (Bt a prev c kd 0 0 0 0 0 ⟨#[]⟩ ⟨#[]⟩ 0 0 ⟨#[]⟩ 0 0 (.slice none 0 0) (.slice none 0 0)) q ?_)
 refine rT1 q Ca ?_;rw[F.out];exact⟨none,0,none,0,rfl,⟨⟨Reads.none_ _ _ _ _,Reads.none_ _ _ _ _,⟨Nat.zero_le _,Nat.zero_le _⟩⟩,Df.none_ _ _ _,Df.none_ _ _ _⟩,I.out _ H.out.kept _⟩
theorem xM (s:ByteArray)(o:s.size≤1000000)(s1:Rc.St)(K:Rc.Bm false s.data.toList ⟨0,false⟩ 1=(9,s1))(w:World):
 Cq 101 #[s] w (Jn (Rc.Cd false s.data.toList) w):=by
 have hl:s.data.toList.length=s.size:=by simp
 have Q:=Rc.Bn K (Nat.zero_le _);have R:=Hq (fun w1 b l u (j:Ri w1 b s ⟨0,false⟩ l u)=>j.Wa K o (Nat.zero_le _));rcases p:Rc.Bm false s.data.toList s1 6 with⟨f,s2⟩;have a2:=Rc.Bn p Q;have S:=Hq (fun w1 b l u (j:Ri w1 b s s1 l u)=>j.Kz p o (by omega));rcases q:Rc.Bm false s.data.toList s2 6 with⟨prev,T⟩;have a3:=Rc.Bn q a2;have U:=Hq (fun w1 b l u (j:Ri w1 b s s2 l u)=>j.Kz q o (by omega));rcases k:Rc.Bm false s.data.toList T 6 with⟨h,s4⟩;have a4:=Rc.Bn k a3;have V:=Hq (fun w1 b l u (j:Ri w1 b s T l u)=>j.Kz k o (by omega));have X:Rc.Hb false s.data.toList=(Rc.bare 9 f prev h,s4):=by
  unfold Rc.Hb;simp only[K,p,q,k]
 have Y:Rc.Cd false s.data.toList=Rc.Mr false s.data.toList (Rc.bare 9 f prev h) s4:=by
  unfold Rc.Cd;rw[X]
  show Rc.Gb false _ (Rc.bare 9 f prev h) s4=_
  rw[Rc.jO rfl]
 have r:=Hq Y;clear Y;have Z:=Hq (fun(b:Nat) (u:World) (hb:u.heap[b]? =some (.cells (iC s s4.at_ s4.bad) 173 (0,0)))=>iT b s s4 o (by omega) f prev h u hb);obtain⟨a,t⟩:=ex (Rc.Mr false s.data.toList (Rc.bare 9 f prev h) s4);rw[← t]at Z r;clear t;clear K p q k Q a2 a3 a4 X;go_enter Tryz.func101,Tryz.ntmps101;go_upto_region 2 with fail;obtain⟨g,m⟩:=ex w.heap.size;obtain⟨w1,i⟩:=ex ((w.alloc (.cells Dl 47)).alloc (.cells #[s,(),false] 173));have v:(w.alloc (.cells Dl 47)).heap.size=g+1:=by rw[m];simp
 have n:w1.heap.size=g+2:=by rw[i,m];simp
 have y:Bw w w1:=by rw[i];exact Ak (Ag _ _)
 have HI:Hid (Ri w1 (g+1) s ⟨0,false⟩ [] w1):=Hq (Ri.start (by rw[i,← v];exact heap_alloc_new _ _));have z:Hid (w1.heap[g]? =some (.cells Dl 47 (0,0))):=Hq (by rw[i,m];exact Km _ _ _);have L:=Hq (fun u (hk:C7 w1.heap.size (g+1) w1 u) cs=>Hj m y n hk cs);have M:=Hq (Nat.le_of_eq m.symm);have C:=Hq n;rw[← i,← m];clear m i v y n
 go_upto_region 3 with(first|(go_at_call 148;(with_reducible refine(R.out _ _ _ _ HI.out).mono ?_);rintro e v0 ⟨rfl,D⟩)|(go_at_call 148;(with_reducible refine(S.out _ _ _ _ D).mono ?_);rintro e v1 ⟨rfl,E⟩)|(go_at_call 148;(with_reducible refine(U.out _ _ _ _ E).mono ?_);rintro e v2 ⟨rfl,F⟩)|(go_at_call 148;(with_reducible refine(V.out _ _ _ _ F).mono ?_);rintro e v3 ⟨rfl,G⟩)|with_reducible refine sN (Bt f prev h 9 0 0 0 0 0 ⟨#[]⟩ ⟨#[]⟩ 0 0 ⟨#[]⟩ 0 0 (.slice none 0 0) (.slice none 0 0)) ?_)
 have H:=Hq (G.alloc (Bt f prev h 9 0 0 0 0 0 ⟨#[]⟩ ⟨#[]⟩ 0 0 ⟨#[]⟩ 0 0 (.slice none 0 0) (.slice none 0 0)) 47);obtain⟨x,N⟩:=ex v3.heap.size;obtain⟨W,O⟩:=ex (v3.alloc (.cells (Bt f prev h 9 0 0 0 0 0 ⟨#[]⟩ ⟨#[]⟩ 0 0 ⟨#[]⟩ 0 0 (.slice none 0 0) (.slice none 0 0)) 47));rw[← N,← O]at H;rw[← N,← O];simp only[List.nil_append]at H;clear N O D E F G HI R S U V;have a6:=Aa H.out.Am
 go_wp2_with(first
  |with_reducible refine lL H.out.Am Ca ?_
  |(go_at_call 151;(with_reducible refine(Z.out (g+1) _ H.out.rd).mono ?_);rintro e u ⟨A,c,B,d,rfl,P,k⟩;(try dsimp only[Dp,Ec]);have I:=H.out.kept.trans (k.A5 H.out.kept.size);have J:=((I.block g (by have:=C.out;omega) (by omega)).trans z.out))
  |with_reducible refine lS (Bt a.lsn a.prev a.txn a.kind a.Ab a.next a.num a.op.kind a.op.slot a.op.A5 a.op.new a.how a.root a.e.key a.e.Ab a.e.slot (.slice A a.txns.length c) (.slice B a.dirty.length d)) J ?_)
 refine rT1 J Ca ?_;rw[r.out];exact⟨A,c,B,d,rfl,((P.row g _ (by have:=C8 z.out;have:=H.out.kept.size;omega)).mono (by have p:=M.out;have q:=H.out.kept.size;have k:=C.out;omega)),L.out _ I _⟩
theorem tQ (s:ByteArray)(m:s.size≤1000000)(s1:Rc.St)(E:(Rc.Bm false s.data.toList (Rc.Tb false s.data.toList (Rc.Bm false s.data.toList (Rc.Hb false s.data.toList).2 3).2).2 1).1=1)(F:Rc.Bm false s.data.toList ⟨0,false⟩ 1=(2,s1))(w:World):
 Cq 101 #[s] w (Jn (Rc.Cd false s.data.toList) w):=by
 have hl:s.data.toList.length=s.size:=by simp
 have P:=Rc.Bn F (Nat.zero_le _);have Q:=Hq (fun w1 b l u (f:Ri w1 b s ⟨0,false⟩ l u)=>f.Wa F m (Nat.zero_le _));rcases G:Rc.Bm false s.data.toList s1 6 with⟨a,s2⟩;have a2:=Rc.Bn G P;have R:=Hq (fun w1 b l u (f:Ri w1 b s s1 l u)=>f.Kz G m (by omega));rcases n:Rc.Bm false s.data.toList s2 6 with⟨prev,S⟩;have a3:=Rc.Bn n a2;have T:=Hq (fun w1 b l u (f:Ri w1 b s s2 l u)=>f.Kz n m (by omega));rcases j:Rc.Bm false s.data.toList S 6 with⟨c,k⟩;have a4:=Rc.Bn j a3;have U:=Hq (fun w1 b l u (f:Ri w1 b s S l u)=>f.Kz j m (by omega));rcases p:Rc.Bm false s.data.toList k 3 with⟨pg,Z⟩;have a5:=Rc.Bn p a4;rcases q:Rc.Tb false s.data.toList Z with⟨o,s6⟩;have V:=Rc.Xu q a5;rcases r:Rc.Bm false s.data.toList s6 1 with⟨hw,s7⟩;have a7:=Rc.Bn r V;have I:Rc.Hb false s.data.toList=(Rc.bare 2 a prev c,k):=by
  unfold Rc.Hb;simp only[F,G,n,j]
 have d:hw=1:=by rw[I]at E;simp only[p,q,r]at E;exact E
 subst d;have X:Rc.Cd false s.data.toList=⟨a,prev,c,2,pg,0,0,o,1,0,Rc.D6,[],[]⟩:=by
  unfold Rc.Cd;rw[I]
  show Rc.Gb false _ (Rc.bare 2 a prev c) k=_
  rw[Rc.Yo rfl];simp only[p,q];unfold Rc.Uk;simp only[r,↓reduceIte]
  rfl
 have J:=Hq X;clear X;have CH:=Hq (fun(b:Nat) (u:World) (hb:u.heap[b]? =some (.cells (iC s k.at_ k.bad) 173 (0,0)))=>oV b s k m (by omega) a prev c 2 0 0 0 0 0 0 0 0 0 ⟨#[]⟩ ⟨#[]⟩ ⟨#[]⟩ [] [] none none 0 0 0 0 p q r u hb);clear F G n j p q r P a2 a3 a4 a5 V a7 I E;go_enter Tryz.func101,Tryz.ntmps101;go_upto_region 2 with fail;obtain⟨g,h⟩:=ex w.heap.size;obtain⟨w1,d⟩:=ex ((w.alloc (.cells Dl 47)).alloc (.cells #[s,(),false] 173));have t:(w.alloc (.cells Dl 47)).heap.size=g+1:=by rw[h];simp
 have i:w1.heap.size=g+2:=by rw[d,h];simp
 have v:Bw w w1:=by rw[d];exact Ak (Ag _ _)
 have Y:Hid (Ri w1 (g+1) s ⟨0,false⟩ [] w1):=Hq (Ri.start (by rw[d,← t];exact heap_alloc_new _ _));have K:Hid (w1.heap[g]? =some (.cells Dl 47 (0,0))):=Hq (by rw[d,h];exact Km _ _ _);have L:=Hq (fun u (hk:C7 w1.heap.size (g+1) w1 u) cs=>Hj h v i hk cs);have a8:=Hq (Nat.le_of_eq h.symm);have M:=Hq i;rw[← d,← h];clear h d t v i
 go_upto_region 3 with(first|(go_at_call 148;(with_reducible refine(Q.out _ _ _ _ Y.out).mono ?_);rintro e v0 ⟨rfl,y⟩)|(go_at_call 148;(with_reducible refine(R.out _ _ _ _ y).mono ?_);rintro e v1 ⟨rfl,z⟩)|(go_at_call 148;(with_reducible refine(T.out _ _ _ _ z).mono ?_);rintro e v2 ⟨rfl,A⟩)|(go_at_call 148;(with_reducible refine(U.out _ _ _ _ A).mono ?_);rintro e v3 ⟨rfl,B⟩)|with_reducible refine sN (Bt a prev c 2 0 0 0 0 0 ⟨#[]⟩ ⟨#[]⟩ 0 0 ⟨#[]⟩ 0 0 (.slice none 0 0) (.slice none 0 0)) ?_)
 have H:=Hq (B.alloc (Bt a prev c 2 0 0 0 0 0 ⟨#[]⟩ ⟨#[]⟩ 0 0 ⟨#[]⟩ 0 0 (.slice none 0 0) (.slice none 0 0)) 47);obtain⟨x,N⟩:=ex v3.heap.size;obtain⟨W,O⟩:=ex (v3.alloc (.cells (Bt a prev c 2 0 0 0 0 0 ⟨#[]⟩ ⟨#[]⟩ 0 0 ⟨#[]⟩ 0 0 (.slice none 0 0) (.slice none 0 0)) 47));rw[← N,← O]at H;rw[← N,← O];simp only[List.nil_append]at H;clear N O y z A B Y Q R T U;have aa:=Aa H.out.Am
 go_wp2_with(first
  |with_reducible refine lL H.out.Am Ca ?_
  |(go_at_call 149;(with_reducible refine(CH.out (g+1) _ H.out.rd).mono ?_);rintro e u ⟨rfl,n,j⟩;(try dsimp only[Dp,Ec]);have C:=H.out.kept.trans (j.A5 H.out.kept.size);have D:=((C.block g (by have:=M.out;omega) (by omega)).trans K.out))
  |with_reducible refine lS (Bt a prev c 2 pg 0 0 o.kind o.slot o.A5 o.new 1 0 ⟨#[]⟩ 0 0 (.slice none 0 0) (.slice none 0 0)) D ?_)
 refine rT1 D Ca ?_;rw[J.out];exact⟨none,0,none,0,rfl,⟨⟨Reads.none_ _ _ _ _,Reads.none_ _ _ _ _,⟨Nat.zero_le _,Nat.zero_le _⟩⟩,Df.none_ _ _ _,Df.none_ _ _ _⟩,L.out _ C _⟩
theorem tR (s:ByteArray)(n:s.size≤1000000)(s1:Rc.St)(G:¬ (Rc.Bm false s.data.toList (Rc.Tb false s.data.toList (Rc.Bm false s.data.toList (Rc.Hb false s.data.toList).2 3).2).2 1).1=1)(I:Rc.Bm false s.data.toList ⟨0,false⟩ 1=(2,s1))(w:World):
 Cq 101 #[s] w (Jn (Rc.Cd false s.data.toList) w):=by
 have hl:s.data.toList.length=s.size:=by simp
 have Y:=Rc.Bn I (Nat.zero_le _);have Z:=Hq (fun w1 b l u (h:Ri w1 b s ⟨0,false⟩ l u)=>h.Wa I n (Nat.zero_le _));rcases J:Rc.Bm false s.data.toList s1 6 with⟨c,s2⟩;have a2:=Rc.Bn J Y;have C1:=Hq (fun w1 b l u (h:Ri w1 b s s1 l u)=>h.Kz J n (by omega));rcases p:Rc.Bm false s.data.toList s2 6 with⟨prev,s3⟩;have a3:=Rc.Bn p a2;have C2:=Hq (fun w1 b l u (h:Ri w1 b s s2 l u)=>h.Kz p n (by omega));rcases k:Rc.Bm false s.data.toList s3 6 with⟨d,m⟩;have a4:=Rc.Bn k a3;have C3:=Hq (fun w1 b l u (h:Ri w1 b s s3 l u)=>h.Kz k n (by omega));rcases q:Rc.Bm false s.data.toList m 3 with⟨pg,s5⟩;have a5:=Rc.Bn q a4;rcases r:Rc.Tb false s.data.toList s5 with⟨o,s6⟩;have a6:=Rc.Xu r a5;rcases t:Rc.Bm false s.data.toList s6 1 with⟨N,s7⟩;have a7:=Rc.Bn t a6;rcases K:Rc.Bm false s.data.toList s7 3 with⟨ro,s8⟩;have a8:=Rc.Bn K a7;rcases L:Rc.Bm false s.data.toList s8 3 with⟨pa,s9⟩;have a9:=Rc.Bn L a8;rcases M:Rc.Bm false s.data.toList s9 2 with⟨so,O⟩;have v:=Rc.Bn M a9;rcases f:Rc.Ib s.data.toList O with⟨ke,aa⟩;have P:=Rc.Tw f v;have Q:Rc.Hb false s.data.toList=(Rc.bare 2 c prev d,m):=by
  unfold Rc.Hb;simp only[I,J,p,k]
 have a:¬ N=1:=by rw[Q]at G;simp only[q,r,t]at G;exact G
 have RD:Rc.Cd false s.data.toList=⟨c,prev,d,2,pg,0,0,o,N,ro,⟨ke,pa,so⟩,[],[]⟩:=by
  unfold Rc.Cd;rw[Q]
  show Rc.Gb false _ (Rc.bare 2 c prev d) m=_
  rw[Rc.Yo rfl];simp only[q,r];unfold Rc.Uk;simp only[t,a,↓reduceIte,K,L,M,f]
  rfl
 have R:=Hq RD;clear RD;have CH:=Hq (fun(b:Nat) (u:World) (hb:u.heap[b]? =some (.cells (iC s m.at_ m.bad) 173 (0,0)))=>oW b s m n (by omega) c prev d 2 0 0 0 0 0 0 0 0 0 ⟨#[]⟩ ⟨#[]⟩ ⟨#[]⟩ [] [] none none 0 0 0 0 q r t K L M f a u hb);clear I J p k q r t K L M f Y a2 a3 a4 a5 a6 a7 a8 a9 v P Q G a;go_enter Tryz.func101,Tryz.ntmps101;go_upto_region 2 with fail;obtain⟨g,i⟩:=ex w.heap.size;obtain⟨w1,a⟩:=ex ((w.alloc (.cells Dl 47)).alloc (.cells #[s,(),false] 173));have y:(w.alloc (.cells Dl 47)).heap.size=g+1:=by rw[i];simp
 have j:w1.heap.size=g+2:=by rw[a,i];simp
 have z:Bw w w1:=by rw[a];exact Ak (Ag _ _)
 have HI:Hid (Ri w1 (g+1) s ⟨0,false⟩ [] w1):=Hq (Ri.start (by rw[a,← y];exact heap_alloc_new _ _));have S:Hid (w1.heap[g]? =some (.cells Dl 47 (0,0))):=Hq (by rw[a,i];exact Km _ _ _);have T:=Hq (fun u (hk:C7 w1.heap.size (g+1) w1 u) cs=>Hj i z j hk cs);have ad:=Hq (Nat.le_of_eq i.symm);have U:=Hq j;rw[← a,← i];clear i a y z j
 go_upto_region 3 with(first|(go_at_call 148;(with_reducible refine(Z.out _ _ _ _ HI.out).mono ?_);rintro e v0 ⟨rfl,A⟩)|(go_at_call 148;(with_reducible refine(C1.out _ _ _ _ A).mono ?_);rintro e v1 ⟨rfl,B⟩)|(go_at_call 148;(with_reducible refine(C2.out _ _ _ _ B).mono ?_);rintro e v2 ⟨rfl,C⟩)|(go_at_call 148;(with_reducible refine(C3.out _ _ _ _ C).mono ?_);rintro e v3 ⟨rfl,D⟩)|with_reducible refine sN (Bt c prev d 2 0 0 0 0 0 ⟨#[]⟩ ⟨#[]⟩ 0 0 ⟨#[]⟩ 0 0 (.slice none 0 0) (.slice none 0 0)) ?_)
 have H:=Hq (D.alloc (Bt c prev d 2 0 0 0 0 0 ⟨#[]⟩ ⟨#[]⟩ 0 0 ⟨#[]⟩ 0 0 (.slice none 0 0) (.slice none 0 0)) 47);obtain⟨x,V⟩:=ex v3.heap.size;obtain⟨W,X⟩:=ex (v3.alloc (.cells (Bt c prev d 2 0 0 0 0 0 ⟨#[]⟩ ⟨#[]⟩ 0 0 ⟨#[]⟩ 0 0 (.slice none 0 0) (.slice none 0 0)) 47));rw[← V,← X]at H;rw[← V,← X];simp only[List.nil_append]at H;clear V X A B C D HI Z C1 C2 C3;have ae:=Aa H.out.Am
 go_wp2_with(first
  |with_reducible refine lL H.out.Am Ca ?_
  |(go_at_call 149;(with_reducible refine(CH.out (g+1) _ H.out.rd).mono ?_);rintro e u ⟨rfl,p,k⟩;(try dsimp only[Dp,Ec]);have E:=H.out.kept.trans (k.A5 H.out.kept.size);have F:=((E.block g (by have:=U.out;omega) (by omega)).trans S.out))
  |with_reducible refine lS (Bt c prev d 2 pg 0 0 o.kind o.slot o.A5 o.new N ro ke pa so (.slice none 0 0) (.slice none 0 0)) F ?_)
 refine rT1 F Ca ?_;rw[R.out];exact⟨none,0,none,0,rfl,⟨⟨Reads.none_ _ _ _ _,Reads.none_ _ _ _ _,⟨Nat.zero_le _,Nat.zero_le _⟩⟩,Df.none_ _ _ _,Df.none_ _ _ _⟩,T.out _ E _⟩
theorem On (s:ByteArray)(a:s.size≤1000000)(w:World):
 Cq 101 #[s] w (Jn (Rc.Cd false s.data.toList) w):=by
 rcases b:Rc.Bm false s.data.toList ⟨0,false⟩ 1 with⟨c,s1⟩
 by_cases d:c=2
 ·subst d
  by_cases e:(Rc.Bm false s.data.toList (Rc.Tb false s.data.toList (Rc.Bm false s.data.toList (Rc.Hb false s.data.toList).2 3).2).2 1).1=1
  ·exact tQ s a s1 e b w
  ·exact tR s a s1 e b w
 by_cases f:c=3
 ·subst f;exact xI s a s1 b w
 by_cases g:c=4
 ·subst g;exact xJ s a s1 b w
 by_cases h:c=8
 ·subst h;exact xK s a s1 b w
 by_cases i:c=9
 ·subst i;exact xM s a s1 b w
 exact xL s a s1 c d f g h i b w
end Go.Proofs.YtdfkambdagoojaaGreatDoor
