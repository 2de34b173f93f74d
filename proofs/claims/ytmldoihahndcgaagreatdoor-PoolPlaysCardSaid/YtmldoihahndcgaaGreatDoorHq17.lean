import Derived.Test.YtmldoihahndcgaaGreatDoorHq00
import Derived.Test.YtmldoihahndcgaaGreatDoorHq16
import Derived.Test.YtmldoihahndcgaaGreatDoorHq07
import Derived.Test.YtmldoihahndcgaaGreatDoorHq08
set_option maxRecDepth 100000
set_option maxHeartbeats 16000000
set_option linter.unusedSimpArgs false
namespace Go.Proofs.YtmldoihahndcgaaGreatDoor
open Go.RowKit Sc
abbrev Zq7:Array Value:=#[(),(),(),'s',(),false,(),(),(),(),"",'s',(),'s',()]
theorem rW {N n B:Nat}(s:Tx.St)(p:SP)(fs:List Fr)(u:Wf N n B s fs)(z:B≤1000000)(a:D1)(l:a.kind=0)(w:World)(h:An w s p fs):
 Cq 47 #[Af s p,.agg (F5 a)] w (Fi (Cx s fs a) w):=by
 have c:=Hq (fun W (m:Bw w W)=>Mq s p fs u z a.page W (h.below m));have d:=Hq (show Cx s fs a=Jm s fs a.page from by unfold Cx;rw[if_pos l]);generalize Jm s fs a.page=X at c d;have v:=Hq (fun w' (q:SP) (A:An w' X.1.s q X.1.fs) (m:Bw w w')=>show Fi (Cx s fs a) w (.returned (.tuple #[Af X.1.s q,X.2,X.1.e])) w' from by rw[d.out];exact⟨q,rfl,A,m⟩);generalize Fi (Cx s fs a) w=Q at v ⊢;clear h u d;have C:=Hq l;clear l;go_enter Tryz.func47,Tryz.ntmps47;go_upto_region 1 with fail;have b:=Jo w (Ai s p) 36 (F5 a) 90 Zq7 36;obtain⟨x,g⟩:=Dr b;rw[← g]at b ⊢;clear g;have o:=show x.cell? ⟨w.heap.size+1,0,none⟩=some (.int .i64 0)from by rw[Aa b.out.Ah,← C.out];rfl
 have r:=show x.cell? ⟨w.heap.size+1,1,none⟩=some (.int .i64 a.page)from by rw[Aa b.out.Ah];rfl
 go_upto_region 21 with(first
  |with_reducible refine lL b.out.Ag Ak ?_
  |(go_at_call 19;refine(c.out _ b.out.below).mono ?_;rintro e y ⟨q,rfl,i,j⟩;have H1:=Hq (b.out.step j))
  |with_reducible refine lS (Ai X.1.s q) H1.out.Ag ?_)
 have f:=Hq (show Dm w.heap.size w [((Ai X.1.s q),36),((F5 a),90),(Zq7,36)] (y.setRow w.heap.size (Ai X.1.s q))from H1.out.row 0 (Ai X.1.s q) _ rfl);have k:=Hq (i.other (t:=36) H1.out.Ag (by decide) (by decide) (by decide) (Ai X.1.s q));generalize y.setRow w.heap.size (Ai X.1.s q)=w2 at f k ⊢;clear j i b H1 c o r
 try simp only[Act.put]
 go_wp2_with(first|with_reducible refine lL f.out.Ag Ak ?_|with_reducible refine lS (Ai X.1.s q) f.out.Ax ?_)
 refine rT3 (X.2) (X.1.e) f.out.Ax Ak ?_;exact v.out _ q (k.out.other (t:=36) f.out.Ax (by decide) (by decide) (by decide) _) (f.out.row 2 (Ai X.1.s q) _ rfl).below
theorem rX {N n B:Nat}(s:Tx.St)(p:SP)(fs:List Fr)(u:Wf N n B s fs)(z:B≤1000000)(a:D1)(l:a.kind=1)(w:World)(h:An w s p fs):
 Cq 47 #[Af s p,.agg (F5 a)] w (Fi (Cx s fs a) w):=by
 have c:=Hq (fun W (m:Bw w W)=>iQ s p fs u z a.page W (h.below m));have d:=Hq (show Cx s fs a=(My s fs a.page,⟨#[]⟩)from by unfold Cx;rw[if_neg (by rw[l];decide)];rw[if_pos l]);generalize My s fs a.page=X at c d;have v:=Hq (fun w' (q:SP) (A:An w' X.s q X.fs) (m:Bw w w')=>show Fi (Cx s fs a) w (.returned (.tuple #[Af X.s q,"",X.e])) w' from by rw[d.out];exact⟨q,rfl,A,m⟩);generalize Fi (Cx s fs a) w=Q at v ⊢;clear h u d;have C:=Hq l;clear l;go_enter Tryz.func47,Tryz.ntmps47;go_upto_region 1 with fail;have b:=Jo w (Ai s p) 36 (F5 a) 90 Zq7 36;obtain⟨x,g⟩:=Dr b;rw[← g]at b ⊢;clear g;have o:=show x.cell? ⟨w.heap.size+1,0,none⟩=some (.int .i64 1)from by rw[Aa b.out.Ah,← C.out];rfl
 have r:=show x.cell? ⟨w.heap.size+1,1,none⟩=some (.int .i64 a.page)from by rw[Aa b.out.Ah];rfl
 go_upto_region 21 with(first
  |with_reducible refine lL b.out.Ag Ak ?_
  |(go_at_call 105;refine(c.out _ b.out.below).mono ?_;rintro e y ⟨q,rfl,i,j⟩;have H1:=Hq (b.out.step j))
  |with_reducible refine lS (Ai X.s q) H1.out.Ag ?_)
 have f:=Hq (show Dm w.heap.size w [((Ai X.s q),36),((F5 a),90),(Zq7,36)] (y.setRow w.heap.size (Ai X.s q))from H1.out.row 0 (Ai X.s q) _ rfl);have k:=Hq (i.other (t:=36) H1.out.Ag (by decide) (by decide) (by decide) (Ai X.s q));generalize y.setRow w.heap.size (Ai X.s q)=w2 at f k ⊢;clear j i b H1 c o r
 try simp only[Act.put]
 go_wp2_with(first|with_reducible refine lL f.out.Ag Ak ?_|with_reducible refine lS (Ai X.s q) f.out.Ax ?_)
 refine rT3 "" (X.e) f.out.Ax Ak ?_;exact v.out _ q (k.out.other (t:=36) f.out.Ax (by decide) (by decide) (by decide) _) (f.out.row 2 (Ai X.s q) _ rfl).below
theorem rY {N n B:Nat}(s:Tx.St)(p:SP)(fs:List Fr)(u:Wf N n B s fs)(z:B≤1000000)(a:D1)(g:a.kind=2)(w:World)(h:An w s p fs):
 Cq 47 #[Af s p,.agg (F5 a)] w (Fi (Cx s fs a) w):=by
 have c:=Hq (fun W (m:Bw w W)=>Y8 s p fs u z a.page W (h.below m));have d:=Hq (show Cx s fs a=(Ff s fs a.page,⟨#[]⟩)from by unfold Cx;rw[if_neg (by rw[g];decide)];rw[if_neg (by rw[g];decide)];rw[if_pos g]);generalize Ff s fs a.page=X at c d;have v:=Hq (fun w' (q:SP) (A:An w' X.s q X.fs) (m:Bw w w')=>show Fi (Cx s fs a) w (.returned (.tuple #[Af X.s q,"",X.e])) w' from by rw[d.out];exact⟨q,rfl,A,m⟩);generalize Fi (Cx s fs a) w=Q at v ⊢;clear h u d;have C:=Hq g;clear g;go_enter Tryz.func47,Tryz.ntmps47;go_upto_region 1 with fail;have b:=Jo w (Ai s p) 36 (F5 a) 90 Zq7 36;obtain⟨x,i⟩:=Dr b;rw[← i]at b ⊢;clear i;have o:=show x.cell? ⟨w.heap.size+1,0,none⟩=some (.int .i64 2)from by rw[Aa b.out.Ah,← C.out];rfl
 have r:=show x.cell? ⟨w.heap.size+1,1,none⟩=some (.int .i64 a.page)from by rw[Aa b.out.Ah];rfl
 go_upto_region 21 with(first
  |with_reducible refine lL b.out.Ag Ak ?_
  |(go_at_call 106;refine(c.out _ b.out.below).mono ?_;rintro e y ⟨q,rfl,j,k⟩;have H1:=Hq (b.out.step k))
  |with_reducible refine lS (Ai X.s q) H1.out.Ag ?_)
 have f:=Hq (show Dm w.heap.size w [((Ai X.s q),36),((F5 a),90),(Zq7,36)] (y.setRow w.heap.size (Ai X.s q))from H1.out.row 0 (Ai X.s q) _ rfl);have l:=Hq (j.other (t:=36) H1.out.Ag (by decide) (by decide) (by decide) (Ai X.s q));generalize y.setRow w.heap.size (Ai X.s q)=w2 at f l ⊢;clear k j b H1 c o r
 try simp only[Act.put]
 go_wp2_with(first|with_reducible refine lL f.out.Ag Ak ?_|with_reducible refine lS (Ai X.s q) f.out.Ax ?_)
 refine rT3 "" (X.e) f.out.Ax Ak ?_;exact v.out _ q (l.out.other (t:=36) f.out.Ax (by decide) (by decide) (by decide) _) (f.out.row 2 (Ai X.s q) _ rfl).below
theorem rZ {N n B:Nat}(s:Tx.St)(p:SP)(fs:List Fr)(u:Wf N n B s fs)(_hB:B≤1000000)(a:D1)(c:a.kind=5)(w:World)(h:An w s p fs):
 Cq 47 #[Af s p,.agg (F5 a)] w (Fi (Cx s fs a) w):=by
 have d:=Hq (fun W (m:Bw w W)=>Qm s p fs u a.page W (h.below m));have f:=Hq (show Cx s fs a=(Df s fs a.page,⟨#[]⟩)from by unfold Cx;rw[if_neg (by rw[c];decide)];rw[if_neg (by rw[c];decide)];rw[if_neg (by rw[c];decide)];rw[if_neg (by rw[c];decide)];rw[if_pos c]);generalize Df s fs a.page=X at d f;have v:=Hq (fun w' (q:SP) (z:An w' X.s q X.fs) (m:Bw w w')=>show Fi (Cx s fs a) w (.returned (.tuple #[Af X.s q,"",X.e])) w' from by rw[f.out];exact⟨q,rfl,z,m⟩);generalize Fi (Cx s fs a) w=Q at v ⊢;clear h u f;have A:=Hq c;clear c;go_enter Tryz.func47,Tryz.ntmps47;go_upto_region 1 with fail;have b:=Jo w (Ai s p) 36 (F5 a) 90 Zq7 36;obtain⟨x,i⟩:=Dr b;rw[← i]at b ⊢;clear i;have o:=show x.cell? ⟨w.heap.size+1,0,none⟩=some (.int .i64 5)from by rw[Aa b.out.Ah,← A.out];rfl
 have r:=show x.cell? ⟨w.heap.size+1,1,none⟩=some (.int .i64 a.page)from by rw[Aa b.out.Ah];rfl
 go_upto_region 21 with(first
  |with_reducible refine lL b.out.Ag Ak ?_
  |(go_at_call 109;refine(d.out _ b.out.below).mono ?_;rintro e y ⟨q,rfl,j,k⟩;have H1:=Hq (b.out.step k))
  |with_reducible refine lS (Ai X.s q) H1.out.Ag ?_)
 have g:=Hq (show Dm w.heap.size w [((Ai X.s q),36),((F5 a),90),(Zq7,36)] (y.setRow w.heap.size (Ai X.s q))from H1.out.row 0 (Ai X.s q) _ rfl);have l:=Hq (j.other (t:=36) H1.out.Ag (by decide) (by decide) (by decide) (Ai X.s q));generalize y.setRow w.heap.size (Ai X.s q)=w2 at g l ⊢;clear k j b H1 d o r
 try simp only[Act.put]
 go_wp2_with(first|with_reducible refine lL g.out.Ag Ak ?_|with_reducible refine lS (Ai X.s q) g.out.Ax ?_)
 refine rT3 "" (X.e) g.out.Ax Ak ?_;exact v.out _ q (l.out.other (t:=36) g.out.Ax (by decide) (by decide) (by decide) _) (g.out.row 2 (Ai X.s q) _ rfl).below
theorem sA {N n B:Nat}(s:Tx.St)(p:SP)(fs:List Fr)(u:Wf N n B s fs)(_hB:B≤1000000)(a:D1)(b:a.kind=6)(w:World)(h:An w s p fs):
 Cq 47 #[Af s p,.agg (F5 a)] w (Fi (Cx s fs a) w):=by
 have d:=Hq (fun W (m:Bw w W)=>iV s p fs u W (h.below m));have f:=Hq (show Cx s fs a=(Qz s fs,⟨#[]⟩)from by unfold Cx;rw[if_neg (by rw[b];decide)];rw[if_neg (by rw[b];decide)];rw[if_neg (by rw[b];decide)];rw[if_neg (by rw[b];decide)];rw[if_neg (by rw[b];decide)];rw[if_pos b]);generalize Qz s fs=X at d f;have v:=Hq (fun w' (q:SP) (z:An w' X.s q X.fs) (m:Bw w w')=>show Fi (Cx s fs a) w (.returned (.tuple #[Af X.s q,"",X.e])) w' from by rw[f.out];exact⟨q,rfl,z,m⟩);generalize Fi (Cx s fs a) w=Q at v ⊢;clear h u f;have A:=Hq b;clear b;go_enter Tryz.func47,Tryz.ntmps47;go_upto_region 1 with fail;have c:=Jo w (Ai s p) 36 (F5 a) 90 Zq7 36;obtain⟨x,i⟩:=Dr c;rw[← i]at c ⊢;clear i;have o:=show x.cell? ⟨w.heap.size+1,0,none⟩=some (.int .i64 6)from by rw[Aa c.out.Ah,← A.out];rfl
 have r:=show x.cell? ⟨w.heap.size+1,1,none⟩=some (.int .i64 a.page)from by rw[Aa c.out.Ah];rfl
 go_upto_region 21 with(first
  |with_reducible refine lL c.out.Ag Ak ?_
  |(go_at_call 110;refine(d.out _ c.out.below).mono ?_;rintro e y ⟨q,rfl,j,k⟩;have H1:=Hq (c.out.step k))
  |with_reducible refine lS (Ai X.s q) H1.out.Ag ?_)
 have g:=Hq (show Dm w.heap.size w [((Ai X.s q),36),((F5 a),90),(Zq7,36)] (y.setRow w.heap.size (Ai X.s q))from H1.out.row 0 (Ai X.s q) _ rfl);have l:=Hq (j.other (t:=36) H1.out.Ag (by decide) (by decide) (by decide) (Ai X.s q));generalize y.setRow w.heap.size (Ai X.s q)=w2 at g l ⊢;clear k j c H1 d o r
 try simp only[Act.put]
 go_wp2_with(first|with_reducible refine lL g.out.Ag Ak ?_|with_reducible refine lS (Ai X.s q) g.out.Ax ?_)
 refine rT3 "" (X.e) g.out.Ax Ak ?_;exact v.out _ q (l.out.other (t:=36) g.out.Ax (by decide) (by decide) (by decide) _) (g.out.row 2 (Ai X.s q) _ rfl).below
theorem sB {N n B:Nat}(s:Tx.St)(p:SP)(fs:List Fr)(J:Wf N n B s fs)(V:B≤1000000)(a:D1)(hk:a.kind=3∨a.kind=4)(Y:a.o.new.size≤140737488355328)(w:World)(L:Gf w)(h:An w s p fs):
 Cq 47 #[Af s p,.agg (F5 a)] w (Fi (Cx s fs a) w):=by
 have D:=Hq (fun W=>Zs a W);have m:=Hq (fun W (A:Bw w W)=>show Cq 107 #[Af s p,.agg (D7 (He a) (.slice none 0 0) (.slice none 0 0))] W (Bk (D5 s fs (He a) (Ti a.o)) W)from by
  unfold He
  split
  ·exact Ow s p fs J V 1 3 a.page a.n a.o 0 0 Rc.Ey (Ti a.o) (L8 a.o) W (fun b M O r=>cU b ⟨a.o.kind,a.o.slot,a.o.Bd,a.o.new⟩ (by omega) Y M ((L.below A).below r)) (h.below A)
  ·exact Ow s p fs J V 1 2 a.page 0 a.o 1 0 Rc.Ey (Ti a.o) (L8 a.o) W (fun b M O r=>cU b ⟨a.o.kind,a.o.slot,a.o.Bd,a.o.new⟩ (by omega) Y M ((L.below A).below r)) (h.below A))
 have y:=Hq (show Cx s fs a=(D5 s fs (He a) (Ti a.o),⟨#[]⟩)from by unfold Cx;rw[if_neg (by omega),if_neg (by omega),if_neg (by omega),if_pos hk]);generalize D5 s fs (He a) (Ti a.o)=X at m y;generalize (D7 (He a) (.slice none 0 0) (.slice none 0 0))=rv at D m;have Z:=Hq (fun w' (q:SP) (hp:An w' X.s q X.fs) (A:Bw w w')=>show Fi (Cx s fs a) w (.returned (.tuple #[Af X.s q,"",X.e])) w' from by rw[y.out];exact⟨q,rfl,hp,A⟩);generalize Fi (Cx s fs a) w=Q at Z ⊢;clear h J y L;have P:(a.kind==0)=false:=beq_eq_false_iff_ne.2 (by omega);have R:(a.kind==1)=false:=beq_eq_false_iff_ne.2 (by omega);have T:(a.kind==2)=false:=beq_eq_false_iff_ne.2 (by omega);go_enter Tryz.func47,Tryz.ntmps47;go_upto_region 1 with fail;have j:=Jo w (Ai s p) 36 (F5 a) 90 Zq7 36;obtain⟨W0,E⟩:=Dr j;rw[← E]at j ⊢;clear E;have U:=show W0.cell? ⟨w.heap.size+1,0,none⟩=some (.int .i64 a.kind)from by rw[Aa j.out.Ah];rfl
 go_upto_if 43 with fail
 go_cut [43] (fun x wc=>x= .bool true∧wc=W0)
 case first=>
  rcases hk with hk|hk
  ·have F:(a.kind==3)=true:=by rw[hk];rfl
   clear hk;go_wp2_with fail;go_meet
   case rel=>exact⟨congrArg Value.bool F,rfl⟩
  ·have F:(a.kind==3)=false:=by rw[hk];rfl
   have a1:(a.kind==4)=true:=(by rw[hk];rfl);clear hk;go_wp2_with fail;go_meet
   case rel=>exact⟨rfl,rfl⟩
 case rest=>
  obtain⟨rfl,rfl⟩:=hcut;obtain⟨G,rfl⟩:=ex wc;clear hk P R T U;go_upto_region 12 with fail;have k:=Hq (fun(u:World) (hu:Bw G u)=>show u.heap[w.heap.size]? =some (.cells (Ai s p) 36 (0,0))∧u.heap[w.heap.size+1]? =some (.cells (F5 a) 90 (0,0))from⟨Ac j.out.Ag hu,Ac j.out.Ah hu⟩);have c:Bw G G.drew:=(Below.refl _ G).drew;have hSn:=k.out _ c;refine Ig (S:=(fun u=>u.heap[w.heap.size]? =some (.cells (Ai s p) 36 (0,0))∧u.heap[w.heap.size+1]? =some (.cells (F5 a) 90 (0,0)))) 7 Kr ?_ (fun d=>?_)
  ·exact hSn
  generalize G.drew=w8 at c hSn ⊢;refine tA 0 [7] Ak ?_;refine tA 1 [7] rU ?_;refine Ce (rs:=[2]) Kr (by simp) ?_;refine(Bc.cons (o:={dst:=some 49,op:=_,type:=_,pos:=_,after:=_,guard:=_}) rfl (fun K l=>?_) Bc.nil)
  go_simp
  (refine(D.out _).mono ?_);rintro e w9 ⟨rfl,f⟩;have g:=Ae c f;clear c hSn f;have c:=g;clear g;have hSn:=k.out _ c
  refine Bl l (fun d=>?_);clear l K;refine Ce (rs:=[3]) Kr (by simp) ?_;refine(Bc.cons (o:={dst:=some 50,op:=_,type:=_,pos:=_,after:=_,guard:=_}) rfl (fun K l=>?_) Bc.nil)
  go_simp
  (refine(m.out _ (j.out.below.trans (c.mono j.out.below.size))).mono ?_);rintro e w9 ⟨q,rfl,H,f⟩;have g:=Ae c f;clear c hSn f;have c:=g;clear g;have hSn:=k.out _ c
  refine Bl l (fun d=>?_);clear l K;refine Xj 4 [7] ?_;refine Xj 5 [7] ?_;refine Ge (i:=6) (oi:={dst:=some 52,op:=_,type:=_,pos:=_,after:=_,guard:=_}) (v:=?_) rfl Kr Kr Kr Kr (fun _ _ _ h=>h) (Or.inl ⟨by rfl,?_⟩) (fun _=>by assumption) ?_
  rotate_left
  ·intro u z;clear z;go_simp;(try with_reducible rfl)
  try simp only[Act.put,pS]
  refine Ce (rs:=[7]) Kr (by simp) ?_;refine(Bc.last (o:={dst:=none,op:=_,type:=_,pos:=_,after:=_,guard:=_}) rfl Kr (fun K l=>?_) Bc.nil);refine Az (by rfl) ?_;refine sW (Ai X.s q) hSn.1 ?_;refine l.out _ _ ?_;clear l K
  try simp only[Act.put]
  refine Ge (i:=8) (oi:={dst:=some 8,op:=_,type:=_,pos:=_,after:=_,guard:=_}) (v:=?_) rfl Kr Kr Kr Kr (fun _ _ _ h=>h) (Or.inl ⟨by rfl,?_⟩) (fun h=>absurd h (by decide)) ?_
  rotate_left
  ·intro u z;clear z;go_simp;(try with_reducible rfl)
  try simp only[Act.put,pS]
  refine Ie Kr ?_ _;have C:=Hq (show Dm w.heap.size w [((Ai X.s q),36),((F5 a),90),(Zq7,36)] _ from(j.out.step c).row 0 (Ai X.s q) _ rfl);have I:=Hq (H.other (t:=36) hSn.1 (by decide) (by decide) (by decide) (Ai X.s q));generalize World.setRow _ w.heap.size (Ai X.s q)=w3 at C I ⊢;clear H hSn c k j
  go_wp2_with(first|with_reducible refine lL C.out.Ag Ak ?_|with_reducible refine lS (Ai X.s q) C.out.Ax ?_)
  refine rT3 "" (X.e) C.out.Ax Ak ?_;exact Z.out _ q (I.out.other (t:=36) C.out.Ax (by decide) (by decide) (by decide) _) (C.out.row 2 (Ai X.s q) _ rfl).below
theorem sC (s:Tx.St)(p:SP)(fs:List Fr)(a:D1)(q:a.kind<0)(w:World)(h:An w s p fs):
 Cq 47 #[Af s p,.agg (F5 a)] w (Fi (Cx s fs a) w):=by
 have d:=Hq (fun W=>Mm s.Am p.A p.c W);have f:=Hq (show Cx s fs a=(⟨{s with Am:=Lg.Bp s.Am},fs,0⟩,⟨#[]⟩)from by unfold Cx;rw[if_neg (by omega),if_neg (by omega),if_neg (by omega),if_neg (by omega),if_neg (by omega),if_neg (by omega)]);have l:=Hq (show An w {s with Am:=Lg.Bp s.Am} p fs from⟨⟨⟨h.st.dk.secs,h.st.dk.small⟩,h.st.dt,h.st.tx,h.st.tt⟩,h.fn,h.fr,h.ft⟩);have m:=Hq (fun w' (n:Bw w w')=>show Fi (Cx s fs a) w (.returned (.tuple #[Af {s with Am:=Lg.Bp s.Am} p,"",()])) w' from by rw[f.out];exact⟨p,rfl,l.out.below n,n⟩);generalize Fi (Cx s fs a) w=Q at m ⊢;clear h f l;have r:(a.kind==0)=false:=beq_eq_false_iff_ne.2 (by omega);have t:(a.kind==1)=false:=beq_eq_false_iff_ne.2 (by omega);have u:(a.kind==2)=false:=beq_eq_false_iff_ne.2 (by omega);have v:(a.kind==3)=false:=beq_eq_false_iff_ne.2 (by omega);have x:(a.kind==4)=false:=beq_eq_false_iff_ne.2 (by omega);have y:(a.kind==5)=false:=beq_eq_false_iff_ne.2 (by omega);have z:(a.kind==6)=false:=beq_eq_false_iff_ne.2 (by omega);have B:(a.kind==7)=false:=beq_eq_false_iff_ne.2 (by omega);have C:(a.kind==8)=false:=beq_eq_false_iff_ne.2 (by omega);clear q;go_enter Tryz.func47,Tryz.ntmps47;go_upto_region 1 with fail;have b:=Jo w (Ai s p) 36 (F5 a) 90 Zq7 36;obtain⟨D,g⟩:=Dr b;rw[← g]at b ⊢;clear g;have k:=show D.cell? ⟨w.heap.size+1,0,none⟩=some (.int .i64 a.kind)from by rw[Aa b.out.Ah];rfl
 go_upto_region 21 with(first
  |with_reducible refine lP #[.slice p.A s.Am.sectors.length p.c,s.Am.left,s.Am.down] b.out.Ag Bz ?_
  |(go_at_call 113;refine(d.out _).mono ?_;rintro e o ⟨rfl,i⟩;have H1:=Hq (b.out.step i))
  |with_reducible refine lU #[.slice p.A (Lg.Bp s.Am).sectors.length p.c,.int .i64 (Lg.Bp s.Am).left,.bool (Lg.Bp s.Am).down] (Ai {s with Am:=Lg.Bp s.Am} p) H1.out.Ag ?_)
 have j:=Hq (show Dm w.heap.size w [((Ai {s with Am:=Lg.Bp s.Am} p),36),((F5 a),90),(Zq7,36)] (o.setRow w.heap.size (Ai {s with Am:=Lg.Bp s.Am} p))from H1.out.row 0 (Ai {s with Am:=Lg.Bp s.Am} p) _ rfl);generalize o.setRow w.heap.size (Ai {s with Am:=Lg.Bp s.Am} p)=w2 at j ⊢;clear i b H1 d k
 try simp only[Act.put]
 go_wp2_with(first|with_reducible refine lL j.out.Ag Ak ?_|with_reducible refine lS (Ai {s with Am:=Lg.Bp s.Am} p) j.out.Ax ?_)
 refine rT3 "" () j.out.Ax Ak ?_;exact m.out _ (j.out.row 2 (Ai {s with Am:=Lg.Bp s.Am} p) _ rfl).below
theorem jO {N n B:Nat}(s:Tx.St)(p:SP)(fs:List Fr)(b:Wf N n B s fs)(c:B≤1000000)(a:D1)(g:a.kind<7)(d:a.o.new.size≤140737488355328)(w:World)(e:Gf w)(h:An w s p fs):
 Cq 47 #[Af s p,.agg (F5 a)] w (Fi (Cx s fs a) w):=by
 have f:a.kind<0∨a.kind=0∨a.kind=1∨a.kind=2∨(a.kind=3∨a.kind=4)∨a.kind=5∨a.kind=6:=by omega
 rcases f with h1|h1|h1|h1|h1|h1|h1
 ·exact sC s p fs a h1 w h
 ·exact rW s p fs b c a h1 w h
 ·exact rX s p fs b c a h1 w h
 ·exact rY s p fs b c a h1 w h
 ·exact sB s p fs b c a h1 d w e h
 ·exact rZ s p fs b c a h1 w h
 ·exact sA s p fs b c a h1 w h
noncomputable def G6 (s:Tx.St) (fs:List Fr) (a:D1):Px×ByteArray:=
 if a.kind=8 then(⟨{s with Am:=Lg.Gz s.Am a.n},fs,0⟩,⟨#[]⟩)else Cx s fs a
theorem Mp.arm {M:Nat}{d:Lg.Dk}(h:Mp M d){n:Int}(a:n≤9223372036854775807):Mp M (Lg.Gz d n):=⟨h.sz,by
 show _≤(if n<0 then -1 else n)∧(if n<0 then -1 else n)≤_
 split<;>omega,h.len⟩
theorem Mp.start {M:Nat}{d:Lg.Dk}(h:Mp M d):Mp M (Lg.Bp d):=⟨h.sz,by show _≤(-1:Int)∧(-1:Int)≤_;omega,h.len⟩
theorem sD (s:Tx.St)(p:SP)(fs:List Fr)(a:D1)(q:a.kind<0∨8<a.kind)(w:World)(h:An w s p fs):
 Cq 47 #[Af s p,.agg (F5 a)] w (Fi (G6 s fs a) w):=by
 have d:=Hq (fun W=>Mm s.Am p.A p.c W);have f:=Hq (show G6 s fs a=(⟨{s with Am:=Lg.Bp s.Am},fs,0⟩,⟨#[]⟩)from by unfold G6 Cx;rw[if_neg (by omega),if_neg (by omega),if_neg (by omega),if_neg (by omega),if_neg (by omega),if_neg (by omega),if_neg (by omega)]);have l:=Hq (show An w {s with Am:=Lg.Bp s.Am} p fs from⟨⟨⟨h.st.dk.secs,h.st.dk.small⟩,h.st.dt,h.st.tx,h.st.tt⟩,h.fn,h.fr,h.ft⟩);have m:=Hq (fun w' (n:Bw w w')=>show Fi (G6 s fs a) w (.returned (.tuple #[Af {s with Am:=Lg.Bp s.Am} p,"",()])) w' from by rw[f.out];exact⟨p,rfl,l.out.below n,n⟩);generalize Fi (G6 s fs a) w=Q at m ⊢;clear h f l;have r:(a.kind==0)=false:=beq_eq_false_iff_ne.2 (by omega);have t:(a.kind==1)=false:=beq_eq_false_iff_ne.2 (by omega);have u:(a.kind==2)=false:=beq_eq_false_iff_ne.2 (by omega);have v:(a.kind==3)=false:=beq_eq_false_iff_ne.2 (by omega);have x:(a.kind==4)=false:=beq_eq_false_iff_ne.2 (by omega);have y:(a.kind==5)=false:=beq_eq_false_iff_ne.2 (by omega);have z:(a.kind==6)=false:=beq_eq_false_iff_ne.2 (by omega);have B:(a.kind==7)=false:=beq_eq_false_iff_ne.2 (by omega);have C:(a.kind==8)=false:=beq_eq_false_iff_ne.2 (by omega);clear q;go_enter Tryz.func47,Tryz.ntmps47;go_upto_region 1 with fail;have b:=Jo w (Ai s p) 36 (F5 a) 90 Zq7 36;obtain⟨D,g⟩:=Dr b;rw[← g]at b ⊢;clear g;have k:=show D.cell? ⟨w.heap.size+1,0,none⟩=some (.int .i64 a.kind)from by rw[Aa b.out.Ah];rfl
 go_upto_region 21 with(first
  |with_reducible refine lP #[.slice p.A s.Am.sectors.length p.c,s.Am.left,s.Am.down] b.out.Ag Bz ?_
  |(go_at_call 113;refine(d.out _).mono ?_;rintro e o ⟨rfl,i⟩;have H1:=Hq (b.out.step i))
  |with_reducible refine lU #[.slice p.A (Lg.Bp s.Am).sectors.length p.c,.int .i64 (Lg.Bp s.Am).left,.bool (Lg.Bp s.Am).down] (Ai {s with Am:=Lg.Bp s.Am} p) H1.out.Ag ?_)
 have j:=Hq (show Dm w.heap.size w [((Ai {s with Am:=Lg.Bp s.Am} p),36),((F5 a),90),(Zq7,36)] (o.setRow w.heap.size (Ai {s with Am:=Lg.Bp s.Am} p))from H1.out.row 0 (Ai {s with Am:=Lg.Bp s.Am} p) _ rfl);generalize o.setRow w.heap.size (Ai {s with Am:=Lg.Bp s.Am} p)=w2 at j ⊢;clear i b H1 d k
 try simp only[Act.put]
 go_wp2_with(first|with_reducible refine lL j.out.Ag Ak ?_|with_reducible refine lS (Ai {s with Am:=Lg.Bp s.Am} p) j.out.Ax ?_)
 refine rT3 "" () j.out.Ax Ak ?_;exact m.out _ (j.out.row 2 (Ai {s with Am:=Lg.Bp s.Am} p) _ rfl).below
theorem sE (s:Tx.St)(p:SP)(fs:List Fr)(a:D1)(k:a.kind=8)(w:World)(h:An w s p fs):
 Cq 47 #[Af s p,.agg (F5 a)] w (Fi (G6 s fs a) w):=by
 have d:=Hq (fun W=>eH s.Am p.A p.c a.n W);have f:=Hq (show G6 s fs a=(⟨{s with Am:=Lg.Gz s.Am a.n},fs,0⟩,⟨#[]⟩)from by unfold G6;rw[if_pos k]);have m:=Hq (show An w {s with Am:=Lg.Gz s.Am a.n} p fs from⟨⟨⟨h.st.dk.secs,h.st.dk.small⟩,h.st.dt,h.st.tx,h.st.tt⟩,h.fn,h.fr,h.ft⟩);have o:=Hq (fun w' (q:Bw w w')=>show Fi (G6 s fs a) w (.returned (.tuple #[Af {s with Am:=Lg.Gz s.Am a.n} p,"",()])) w' from by rw[f.out];exact⟨p,rfl,m.out.below q,q⟩);generalize Fi (G6 s fs a) w=Q at o ⊢;clear h f m;have u:=Hq k;clear k;go_enter Tryz.func47,Tryz.ntmps47;go_upto_region 1 with fail;have b:=Jo w (Ai s p) 36 (F5 a) 90 Zq7 36;obtain⟨r,g⟩:=Dr b;rw[← g]at b ⊢;clear g;have l:=show r.cell? ⟨w.heap.size+1,0,none⟩=some (.int .i64 8)from by rw[Aa b.out.Ah,← u.out];rfl
 have v:=show r.cell? ⟨w.heap.size+1,2,none⟩=some (.int .i64 a.n)from by rw[Aa b.out.Ah];rfl
 go_upto_region 21 with(first
  |with_reducible refine lP #[.slice p.A s.Am.sectors.length p.c,s.Am.left,s.Am.down] b.out.Ag Bz ?_
  |(go_at_call 112;refine(d.out _).mono ?_;rintro e t ⟨rfl,i⟩;have H1:=Hq (b.out.step i))
  |with_reducible refine lU #[.slice p.A (Lg.Gz s.Am a.n).sectors.length p.c,.int .i64 (Lg.Gz s.Am a.n).left,.bool (Lg.Gz s.Am a.n).down] (Ai {s with Am:=Lg.Gz s.Am a.n} p) H1.out.Ag ?_)
 have j:=Hq (show Dm w.heap.size w [((Ai {s with Am:=Lg.Gz s.Am a.n} p),36),((F5 a),90),(Zq7,36)] (t.setRow w.heap.size (Ai {s with Am:=Lg.Gz s.Am a.n} p))from H1.out.row 0 (Ai {s with Am:=Lg.Gz s.Am a.n} p) _ rfl);generalize t.setRow w.heap.size (Ai {s with Am:=Lg.Gz s.Am a.n} p)=w2 at j ⊢;clear i b H1 d l
 try simp only[Act.put]
 go_wp2_with(first|with_reducible refine lL j.out.Ag Ak ?_|with_reducible refine lS (Ai {s with Am:=Lg.Gz s.Am a.n} p) j.out.Ax ?_)
 refine rT3 "" () j.out.Ax Ak ?_;exact o.out _ (j.out.row 2 (Ai {s with Am:=Lg.Gz s.Am a.n} p) _ rfl).below
theorem dC {N n B:Nat}(s:Tx.St)(p:SP)(fs:List Fr)(c:Wf N n B s fs)(d:B≤1000000)(a:D1)(j:a.kind≠7)(f:a.o.new.size≤140737488355328)(w:World)(g:Gf w)(h:An w s p fs):
 Cq 47 #[Af s p,.agg (F5 a)] w (Fi (G6 s fs a) w):=by
 by_cases b:a.kind=8
 ·exact sE s p fs a b w h
 ·by_cases i:a.kind<7
  ·have e:G6 s fs a=Cx s fs a:=by unfold G6;rw[if_neg b]
   rw[e];exact jO s p fs c d a i f w g h
  ·exact sD s p fs a (.inr (by omega)) w h
def hF (p:Int)(m:Bool):Fr:=⟨p,Gk (0:Nat),0,m,0⟩
theorem Oz (p:Int)(m:Bool):Full (hF p m):=Rg (Rf 0 (by omega)).1.is
theorem Nv {N n k:Nat}(b:1≤n∧n≤60∧N≤3000)(c:10≤N)(d:1≤k∧k≤64){p:Nat}(e:p<n):Db (Bu N n k) (p:Int)=(Gk (0:Nat),0):=
 (nU b c d).read e fun⟨i,f,a,_⟩=>by rw[Full,Hd f]at a;exact a rfl
theorem Wq {fs:List Fr}{a b:Fr}(h:fs=[a,b]){p:Int}(d:¬ (Full a∧a.page=p))(e:¬ (Full b∧b.page=p)):Jl fs p=none:=Ik fun x c=>by
 subst h
 simp at c
 rcases c with rfl|rfl
 ·exact d
 ·exact e
theorem sX:Aq (Bu 700 8 2) (Eh 2) 0=(⟨Bu 700 8 2,[hF 0 true,Vi],0⟩,0):=by
 have d:=Nv (N:=700) (n:=8) (k:=2) (by omega) (by omega) (by omega) (p:=0) (by omega);have e:Jl (Eh 2) 0=none:=Wq (a:=Vi) (b:=Vi) rfl (fun h=>h.1 rfl) (fun h=>h.1 rfl);have f:Hb (Eh 2)=some 0:=K2 (fs:=[Vi,Vi]) (k:=0) (by decide) (fun h=>h rfl) (fun j _ g=>absurd g (by omega));have i:A9 (Bu 700 8 2) (Eh 2)=(⟨Bu 700 8 2,Eh 2,0⟩,0):=by unfold A9;rw[f]
 unfold Aq;rw[if_neg (fun c=>c ⟨Int.le_refl _,by show(0:Int)<8;decide⟩),e];simp only;rw[show Db (Bu 700 8 2) 0=_ from d,if_neg (fun c=>c rfl),i,if_pos rfl]
 rfl
theorem wJ:Jm (Bu 700 8 2) (Eh 2) 0=(⟨Bu 700 8 2,[hF 0 true,Vi],0⟩,Gk (0:Nat)):=by
 unfold Jm;rw[sX]
 rfl
theorem sY:Aq (Bu 700 8 2) [hF 0 true,Vi] 1=(⟨Bu 700 8 2,[hF 0 true,hF 1 true],0⟩,1):=by
 have b:=Nv (N:=700) (n:=8) (k:=2) (by omega) (by omega) (by omega) (p:=1) (by omega);have c:Jl [hF 0 true,Vi] 1=none:=Wq rfl (fun h=>absurd h.2 (by show ¬ (0:Int)=1;decide)) (fun h=>h.1 rfl);have d:Hb [hF 0 true,Vi]=some 1:=K2 (k:=1) (by show 1<2;decide) (fun h=>h rfl) (fun j _ f=>by
  obtain rfl:j=0:=by omega
  exact fun h=>h (Oz 0 true))
 have e:A9 (Bu 700 8 2) [hF 0 true,Vi]=(⟨Bu 700 8 2,[hF 0 true,Vi],0⟩,1):=by unfold A9;rw[d]
 unfold Aq;rw[if_neg (fun a=>a ⟨by decide,by show(1:Int)<8;decide⟩),c];simp only;rw[show Db (Bu 700 8 2) 1=_ from b,if_neg (fun a=>a rfl),e,if_pos rfl]
 rfl
theorem wK:Jm (Bu 700 8 2) [hF 0 true,Vi] 1=(⟨Bu 700 8 2,[hF 0 true,hF 1 true],0⟩,Gk (0:Nat)):=by
 unfold Jm;rw[sY]
 rfl
theorem vW:Aq (Bu 700 8 2) [hF 0 true,hF 1 true] 2=(⟨{Bu 700 8 2 with hand:=1},[hF 2 true,hF 1 false],0⟩,0):=by
 have c:=Nv (N:=700) (n:=8) (k:=2) (by omega) (by omega) (by omega) (p:=2) (by omega);have d:Jl [hF 0 true,hF 1 true] 2=none:=Wq rfl (fun h=>absurd h.2 (by show ¬ (0:Int)=2;decide)) (fun h=>absurd h.2 (by show ¬ (1:Int)=2;decide));have e:Hb [hF 0 true,hF 1 true]=none:=Nr fun x b=>by
  simp at b
  rcases b with rfl|rfl
  ·exact fun h=>h (Oz 0 true)
  ·exact fun h=>h (Oz 1 true)
 have f:E2 2 (2*2) ((Bu 700 8 2).hand.toNat%2) [hF 0 true,hF 1 true]=some (0,[hF 0 false,hF 1 false]):=rfl;have g:A9 (Bu 700 8 2) [hF 0 true,hF 1 true]=(⟨{Bu 700 8 2 with hand:=1},[hF 0 false,hF 1 false],0⟩,0):=by
  unfold A9;rw[e];simp only[List.length_cons,List.length_nil];rw[f]
  rfl
 unfold Aq;rw[if_neg (fun a=>a ⟨by decide,by show(2:Int)<8;decide⟩),d];simp only;rw[show Db (Bu 700 8 2) 2=_ from c,if_neg (fun a=>a rfl),g,if_pos rfl]
 rfl
theorem wL:Jm (Bu 700 8 2) [hF 0 true,hF 1 true] 2=(⟨{Bu 700 8 2 with hand:=1},[hF 2 true,hF 1 false],0⟩,Gk (0:Nat)):=by
 unfold Jm;rw[vW]
 rfl
theorem dD (s:Tx.St)(p:SP)(fs:List Fr)(a:fs.length≤1000)(x:Int)(k:Int)(b:∀ y:Int,((y= -1∧∀ f∈fs,¬ (Full f∧f.page=x))∨∃ (i:Nat) (h:i<fs.length),y=(i:Int)∧(Full fs[i]∧fs[i].page=x)∧∀ j (hj:j<i),¬ (Full (fs[j]'(by omega))∧(fs[j]'(by omega)).page=x))→y=k)(w:World)(h:An w s p fs):
 Cr 50 #[Af s p,x] w (.int .i64 k):=
 (Mo s p fs a x w h).mono fun e w' ⟨y,c,d,g⟩=>⟨by rw[c,b y d],g⟩
theorem dE (w:World):
 Cr 42 #[] w (.bool true):=by
 have a1:=Hq (fun W=>show Cr 46 #[.int .i64 1] W (.agg #[.int .i64 ((700:Nat):Int),.int .i64 ((8:Nat):Int),.int .i64 ((2:Nat):Int)]) from(U8 1 (by omega) W).mono fun e w' ⟨k,_,C,h3,h4⟩=>by
  have hk:k=2:=by have h9:(k:Int)=2:=C;omega
  subst hk;exact⟨h3,h4⟩)
 have F:=Hq (fun W=>Te 700 8 2 (by omega) (by omega) W);have G:=Zd (N:=700) (n:=8) (k:=2) (by omega) (by omega) (by omega);have r:=Hq (fun q W (f:An W (Bu 700 8 2) q (Eh 2))=>show Cq 19 #[Af (Bu 700 8 2) q,()] W (Fi (⟨(Bu 700 8 2),[hF 0 true,Vi],0⟩,Gk (0:Nat)) W)from by rw[← wJ];exact Mq (Bu 700 8 2) q (Eh 2) G (by omega) 0 W f);have j:Wf 700 8 0 (Bu 700 8 2) [hF 0 true,Vi]:=by
  have h:=(G.held 0).1;rw[sX]at h;exact h
 have l:=Hq (fun q W (f:An W (Bu 700 8 2) q [hF 0 true,Vi])=>show Cq 19 #[Af (Bu 700 8 2) q,.int .i64 1] W (Fi (⟨(Bu 700 8 2),[hF 0 true,hF 1 true],0⟩,Gk (0:Nat)) W)from by rw[← wK];exact Mq (Bu 700 8 2) q [hF 0 true,Vi] j (by omega) 1 W f);have D:Wf 700 8 0 (Bu 700 8 2) [hF 0 true,hF 1 true]:=by
  have h:=(j.held 1).1;rw[sY]at h;exact h
 have d:=Hq (fun q W (f:An W (Bu 700 8 2) q [hF 0 true,hF 1 true])=>show Cq 19 #[Af (Bu 700 8 2) q,.int .i64 2] W (Fi (⟨{Bu 700 8 2 with hand:=1},[hF 2 true,hF 1 false],0⟩,Gk (0:Nat)) W)from by rw[← wL];exact Mq (Bu 700 8 2) q [hF 0 true,hF 1 true] D (by omega) 2 W f);have H:=Hq (fun q W (f:An W {Bu 700 8 2 with hand:=1} q [hF 2 true,hF 1 false])=>dD {Bu 700 8 2 with hand:=1} q [hF 2 true,hF 1 false] (by decide) 0 (-1) (fun y hy=>by
  rcases hy with⟨h,_⟩|⟨i,hi,_,⟨_,C⟩,_⟩
  ·exact h
  ·have m:i=0∨i=1:=by have:i<2:=hi;omega
   rcases m with rfl|rfl
   ·exact absurd C (by show ¬ (2:Int)=0;decide)
   ·exact absurd C (by show ¬ (1:Int)=0;decide)) W f)
 have I:=Hq (fun q W (f:An W {Bu 700 8 2 with hand:=1} q [hF 2 true,hF 1 false])=>dD {Bu 700 8 2 with hand:=1} q [hF 2 true,hF 1 false] (by decide) 1 1 (fun y hy=>by
  rcases hy with⟨_,h⟩|⟨i,hi,h1,⟨_,C⟩,_⟩
  ·exact absurd ⟨Oz 1 false,rfl⟩ (h (hF 1 false) (by simp))
  ·have m:i=0∨i=1:=by have:i<2:=hi;omega
   rcases m with rfl|rfl
   ·exact absurd C (by show ¬ (2:Int)=1;decide)
   ·exact h1) W f)
 have J:=Hq (fun q W (f:An W {Bu 700 8 2 with hand:=1} q [hF 2 true,hF 1 false])=>dD {Bu 700 8 2 with hand:=1} q [hF 2 true,hF 1 false] (by decide) 2 0 (fun y hy=>by
  rcases hy with⟨_,h⟩|⟨i,hi,h1,⟨_,C⟩,_⟩
  ·exact absurd ⟨Oz 2 true,rfl⟩ (h (hF 2 true) (by simp))
  ·have m:i=0∨i=1:=by have:i<2:=hi;omega
   rcases m with rfl|rfl
   ·exact h1
   ·exact absurd C (by show ¬ (1:Int)=2;decide)) W f)
 have ah:=Hq (fun W=>Xq 0 W);have ai:((Gk (0:Nat)).toList==(Gk 0).toList)=true:=beq_self_eq_true _;clear G j D;generalize {Bu 700 8 2 with hand:=1}=S3 at d H I J;generalize (Bu 700 8 2)=a at F r l d;generalize [hF 2 true,hF 1 false]=f3 at d H I J;generalize [hF 0 true,hF 1 true]=f2 at l d;generalize [hF 0 true,Vi]=f1 at r l;go_enter Tryz.func42,Tryz.ntmps42
 go_upto_region 2 with(first
  |(go_at_call 46;refine(a1.out _).mono ?_;rintro e w1 ⟨rfl,b⟩)
  |(go_at_call 45;refine(F.out _).mono ?_;rintro e Y ⟨q,rfl,o,c⟩)
  |with_reducible refine sN (Ai a q) ?_)
 have s:=Hq (heap_alloc_new Y (.cells (Ai a q) 36));have K:=Hq (o.below (Ad Y (.cells (Ai a q) 36)));have L:=Hq (Ae b (Ae c (Ad Y (.cells (Ai a q) 36))));have u:=Hq (show w.heap.size≤Y.heap.size from Nat.le_trans b.size c.size);obtain⟨g,hg⟩:=ex Y.heap.size;obtain⟨u0,p⟩:=ex (Y.alloc (.cells (Ai a q) 36));obtain⟨q0,M⟩:=ex q;rw[← hg,← p,← M]at s;rw[← p,← M]at K;rw[← p]at L;rw[← hg]at u;rw[← p,← hg];clear p hg M o b c F a1
 try simp only[Act.put]
 go_upto_region 3 with(first
  |with_reducible refine lL s.out Ak ?_
  |(go_at_call 19;refine(r.out q0 _ K.out).mono ?_;rintro e v1 ⟨Z,rfl,a6,b⟩;have v:=Hq (Ac s.out b))
  |with_reducible refine lS (Ai a Z) v.out ?_)
 have x:=Hq (setRow_heap _ _ _ (Ai a Z) _ _ v.out);have O:=Hq (a6.other (t:=36) v.out (by decide) (by decide) (by decide) (Ai a Z));have P:=Hq (Fj (g:=g) u.out (Ae L.out b) (Ai a Z));generalize v1.setRow g (Ai a Z)=u1 at x O P ⊢;clear a6 b v s K L r
 try simp only[Act.put]
 go_upto_region 4 with(first
  |with_reducible refine lL x.out Ak ?_
  |(go_at_call 19;refine(l.out Z _ O.out).mono ?_;rintro e v2 ⟨q2,rfl,o,c⟩;have z:=Hq (Ac x.out c))
  |with_reducible refine lS (Ai a q2) z.out ?_)
 have A:=Hq (setRow_heap _ _ _ (Ai a q2) _ _ z.out);have Q:=Hq (o.other (t:=36) z.out (by decide) (by decide) (by decide) (Ai a q2));have R:=Hq (Fj (g:=g) u.out (Ae P.out c) (Ai a q2));generalize v2.setRow g (Ai a q2)=u2 at A Q R ⊢;clear o c z x O P l
 try simp only[Act.put]
 go_upto_region 5 with(first
  |with_reducible refine lL A.out Ak ?_
  |(go_at_call 19;refine(d.out q2 _ Q.out).mono ?_;rintro e v3 ⟨E,rfl,a7,S⟩;have B:=Hq (Ac A.out S))
  |with_reducible refine lS (Ai S3 E) B.out ?_)
 have T:=Hq (setRow_heap _ _ _ (Ai S3 E) _ _ B.out);have a8:=Hq (a7.other (t:=36) B.out (by decide) (by decide) (by decide) (Ai S3 E));have aa:=Hq (Fj (g:=g) u.out (Ae R.out S) (Ai S3 E));generalize v3.setRow g (Ai S3 E)=u3 at T a8 aa ⊢;clear a7 S B A Q R d
 try simp only[Act.put]
 go_wp2_with(first
  |with_reducible refine lL T.out Ak ?_
  |(go_at_call 60;refine(ah.out _).mono ?_;rintro e v4 ⟨rfl,U⟩;have ad:=Hq (Ac T.out U);have ae:=Hq (a8.out.below U))
  |with_reducible refine lL ad.out Ak ?_
  |(go_at_call 50;refine(H.out E _ ae.out).mono ?_;rintro e v5 ⟨rfl,V⟩;have af:=Hq (Ac ad.out V);have ag:=Hq (ae.out.below V))
  |with_reducible refine lL af.out Ak ?_
  |(go_at_call 50;refine(I.out E _ ag.out).mono ?_;rintro e v6 ⟨rfl,X⟩;have aj:=Hq (Ac af.out X);have ak:=Hq (ag.out.below X))
  |with_reducible refine lL aj.out Ak ?_
  |(go_at_call 50;refine(J.out E _ ak.out).mono ?_;rintro e v7 ⟨rfl,al⟩))
 go_ret;exact⟨by simp[ai],Ae aa.out (Ae U (Ae V (Ae X al)))⟩
end Go.Proofs.YtmldoihahndcgaaGreatDoor
