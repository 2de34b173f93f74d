import Derived.Test.YtmldoihahndcgaaGreatDoorHq00
import Derived.Test.YtmldoihahndcgaaGreatDoorHq17
import Derived.Test.YtmldoihahndcgaaGreatDoorHq18
import Derived.Test.YtmldoihahndcgaaGreatDoorHq23
import Derived.Test.YtmldoihahndcgaaGreatDoorHq21
import Derived.Test.YtmldoihahndcgaaGreatDoorHq22
import Derived.Test.YtmldoihahndcgaaGreatDoorHq15
set_option maxRecDepth 100000
set_option maxHeartbeats 16000000
set_option linter.unusedSimpArgs false
namespace Go.Proofs.YtmldoihahndcgaaGreatDoor
open Go.RowKit Sc
noncomputable def Ks (s:Tx.St) (fs:List Fr) (a:D1):Px×ByteArray:=
 if a.kind=7 then(Gr s fs a.p.r (Ti a.p.r.op),⟨#[]⟩)else G6 s fs a
theorem sH {N n B:Nat}(s:Tx.St)(p:SP)(fs:List Fr)(C:Wf N n B s fs)(G:B≤1000000)(a:D1)(v:a.kind=7)(x:a.p.r.op.new.size≤140737488355328)(w:World)(D:Gf w)(h:An w s p fs):
 Cq 47 #[Af s p,.agg (F5 a)] w (Fi (Ks s fs a) w):=by
 have g:=Hq (fun W (u:Bw w W)=>show Cq 111 #[Af s p,.agg #[a.p.r.lsn,a.p.r.prev,a.p.r.txn,a.p.r.kind,a.p.r.page,a.p.r.next,a.p.r.num,a.p.r.op.kind,a.p.r.op.slot,a.p.r.op.Bd,a.p.r.op.new,a.p.r.how,a.p.r.root,a.p.r.e.key,a.p.r.e.page,a.p.r.e.slot,.slice a.p.A a.p.r.txns.length a.p.c,.slice a.p.B a.p.r.dirty.length a.p.d]] W (Bk (Gr s fs a.p.r (Ti a.p.r.op)) W)from dF s p fs C G a.p.r a.p.A a.p.r.txns.length a.p.c a.p.B a.p.r.dirty.length a.p.d x (Ti a.p.r.op) (L8 a.p.r.op) W (fun b H I y=>cU b ⟨a.p.r.op.kind,a.p.r.op.slot,a.p.r.op.Bd,a.p.r.op.new⟩ (by omega) x H ((D.below u).below y)) (h.below u));have i:=Hq (show Ks s fs a=(Gr s fs a.p.r (Ti a.p.r.op),⟨#[]⟩)from by unfold Ks;rw[if_pos v]);generalize Gr s fs a.p.r (Ti a.p.r.op)=X at g i;have E:=Hq (fun w' (q:SP) (J:An w' X.s q X.fs) (u:Bw w w')=>show Fi (Ks s fs a) w (.returned (.tuple #[Af X.s q,"",X.e])) w' from by rw[i.out];exact⟨q,rfl,J,u⟩);generalize Fi (Ks s fs a) w=Q at E ⊢;clear h C i D x;have K:=Hq v;clear v;go_enter Tryz.func47,Tryz.ntmps47;go_upto_region 1 with fail;have f:=Jo w (Ai s p) 36 (F5 a) 90 Zq9 36;obtain⟨L,k⟩:=Dr f;rw[← k]at f ⊢;clear k;have z:=show L.cell? ⟨w.heap.size+1,0,none⟩=some (.int .i64 7)from by rw[Aa f.out.Ah,← K.out];rfl
 go_upto_region 21 with(first
  |with_reducible refine lL f.out.Ag Ak ?_
  |with_reducible refine lP #[a.p.r.lsn,a.p.r.prev,a.p.r.txn,a.p.r.kind,a.p.r.page,a.p.r.next,a.p.r.num,a.p.r.op.kind,a.p.r.op.slot,a.p.r.op.Bd,a.p.r.op.new,a.p.r.how,a.p.r.root,a.p.r.e.key,a.p.r.e.page,a.p.r.e.slot,.slice a.p.A a.p.r.txns.length a.p.c,.slice a.p.B a.p.r.dirty.length a.p.d] f.out.Ah Ds ?_
  |(go_at_call 111;refine(g.out _ f.out.below).mono ?_;rintro e F ⟨q,rfl,l,m⟩;have H1:=Hq (f.out.step m))
  |with_reducible refine lS (Ai X.s q) H1.out.Ag ?_)
 have j:=Hq (show Dm w.heap.size w [((Ai X.s q),36),((F5 a),90),(Zq9,36)] (F.setRow w.heap.size (Ai X.s q))from H1.out.row 0 (Ai X.s q) _ rfl);have o:=Hq (l.other (t:=36) H1.out.Ag (by decide) (by decide) (by decide) (Ai X.s q));generalize F.setRow w.heap.size (Ai X.s q)=w2 at j o ⊢;clear m l f H1 g z
 try simp only[Act.put]
 go_wp2_with(first|with_reducible refine lL j.out.Ag Ak ?_|with_reducible refine lS (Ai X.s q) j.out.Ax ?_)
 refine rT3 "" (X.e) j.out.Ax Ak ?_;exact E.out _ q (o.out.other (t:=36) j.out.Ax (by decide) (by decide) (by decide) _) (j.out.row 2 (Ai X.s q) _ rfl).below
theorem dT {N n B:Nat}(s:Tx.St)(p:SP)(fs:List Fr)(d:Wf N n B s fs)(f:B≤1000000)(a:D1)(i:a.o.new.size≤140737488355328)(b:a.p.r.op.new.size≤140737488355328)(w:World)(g:Gf w)(h:An w s p fs):
 Cq 47 #[Af s p,.agg (F5 a)] w (Fi (Ks s fs a) w):=by
 by_cases c:a.kind=7
 ·exact sH s p fs d f a c b w g h
 ·have e:Ks s fs a=G6 s fs a:=by unfold Ks;rw[if_neg c]
  rw[e];exact dC s p fs d f a c i w g h
theorem Wf.act {N n B:Nat}{s:Tx.St}{fs:List Fr}(b:Wf N n B s fs)(a:D1)(d:a.n≤9223372036854775807):Wf N n (B+1) (Ks s fs a).1.s (Ks s fs a).1.fs:=by
 have c:=Nat.le_succ B;unfold Ks
 split
 ·exact((b.oK a.p.r _ (L8 a.p.r.op)).1).more c
 ·unfold G6
  split
  ·exact(b.Am (b.dk.arm d)).more c
  ·unfold Cx
   split
   ·unfold Jm;exact((b.held _).1).more c
   ·split
    ·exact(b.xI _).1
    ·split
     ·exact((b.vQ _).1).more c
     ·split
      ·exact((b.change _ _ (L8 a.o)).1).more c
      ·split
       ·exact((b.eY _).1).more c
       ·split
        ·exact b.all.1.more c
        ·exact(b.Am b.dk.start).more c
theorem oR {N n B:Nat}(s:Tx.St)(p:SP)(fs:List Fr)(u:Wf N n B s fs)(_:B≤1000000)(z:N≤3000)(a:D1)(l:a.kind=0)(w:World)(h:An w s p fs):
 Cq 48 #[Af s p,.agg (F5 a)] w (Fi (Cx s fs a) w):=by
 have c:=Hq (fun W (m:Bw w W)=>Mv s p fs u z a.page W (h.below m));have d:=Hq (show Cx s fs a=Jm s fs a.page from by unfold Cx;rw[if_pos l]);generalize Jm s fs a.page=X at c d;have v:=Hq (fun w' (q:SP) (A:An w' X.1.s q X.1.fs) (m:Bw w w')=>show Fi (Cx s fs a) w (.returned (.tuple #[Af X.1.s q,X.2,X.1.e])) w' from by rw[d.out];exact⟨q,rfl,A,m⟩);generalize Fi (Cx s fs a) w=Q at v ⊢;clear h u d;have C:=Hq l;clear l;go_enter Tryz.func48,Tryz.ntmps48;go_upto_region 1 with fail;have b:=Jo w (Ai s p) 36 (F5 a) 90 Zq9 36;obtain⟨x,g⟩:=Dr b;rw[← g]at b ⊢;clear g;have o:=show x.cell? ⟨w.heap.size+1,0,none⟩=some (.int .i64 0)from by rw[Aa b.out.Ah,← C.out];rfl
 have r:=show x.cell? ⟨w.heap.size+1,1,none⟩=some (.int .i64 a.page)from by rw[Aa b.out.Ah];rfl
 go_upto_region 21 with(first
  |with_reducible refine lL b.out.Ag Ak ?_
  |(go_at_call 96;refine(c.out _ b.out.below).mono ?_;rintro e y ⟨q,rfl,i,j⟩;have H1:=Hq (b.out.step j))
  |with_reducible refine lS (Ai X.1.s q) H1.out.Ag ?_)
 have f:=Hq (show Dm w.heap.size w [((Ai X.1.s q),36),((F5 a),90),(Zq9,36)] (y.setRow w.heap.size (Ai X.1.s q))from H1.out.row 0 (Ai X.1.s q) _ rfl);have k:=Hq (i.other (t:=36) H1.out.Ag (by decide) (by decide) (by decide) (Ai X.1.s q));generalize y.setRow w.heap.size (Ai X.1.s q)=w2 at f k ⊢;clear j i b H1 c o r
 try simp only[Act.put]
 go_wp2_with(first|with_reducible refine lL f.out.Ag Ak ?_|with_reducible refine lS (Ai X.1.s q) f.out.Ax ?_)
 refine rT3 (X.2) (X.1.e) f.out.Ax Ak ?_;exact v.out _ q (k.out.other (t:=36) f.out.Ax (by decide) (by decide) (by decide) _) (f.out.row 2 (Ai X.1.s q) _ rfl).below
theorem oS {N n B:Nat}(s:Tx.St)(p:SP)(fs:List Fr)(u:Wf N n B s fs)(z:B≤1000000)(A:N≤3000)(a:D1)(l:a.kind=1)(w:World)(h:An w s p fs):
 Cq 48 #[Af s p,.agg (F5 a)] w (Fi (Cx s fs a) w):=by
 have c:=Hq (fun W (m:Bw w W)=>jY s p fs u z A a.page W (h.below m));have d:=Hq (show Cx s fs a=(My s fs a.page,⟨#[]⟩)from by unfold Cx;rw[if_neg (by rw[l];decide)];rw[if_pos l]);generalize My s fs a.page=X at c d;have v:=Hq (fun w' (q:SP) (C:An w' X.s q X.fs) (m:Bw w w')=>show Fi (Cx s fs a) w (.returned (.tuple #[Af X.s q,"",X.e])) w' from by rw[d.out];exact⟨q,rfl,C,m⟩);generalize Fi (Cx s fs a) w=Q at v ⊢;clear h u d;have D:=Hq l;clear l;go_enter Tryz.func48,Tryz.ntmps48;go_upto_region 1 with fail;have b:=Jo w (Ai s p) 36 (F5 a) 90 Zq9 36;obtain⟨x,g⟩:=Dr b;rw[← g]at b ⊢;clear g;have o:=show x.cell? ⟨w.heap.size+1,0,none⟩=some (.int .i64 1)from by rw[Aa b.out.Ah,← D.out];rfl
 have r:=show x.cell? ⟨w.heap.size+1,1,none⟩=some (.int .i64 a.page)from by rw[Aa b.out.Ah];rfl
 go_upto_region 21 with(first
  |with_reducible refine lL b.out.Ag Ak ?_
  |(go_at_call 114;refine(c.out _ b.out.below).mono ?_;rintro e y ⟨q,rfl,i,j⟩;have H1:=Hq (b.out.step j))
  |with_reducible refine lS (Ai X.s q) H1.out.Ag ?_)
 have f:=Hq (show Dm w.heap.size w [((Ai X.s q),36),((F5 a),90),(Zq9,36)] (y.setRow w.heap.size (Ai X.s q))from H1.out.row 0 (Ai X.s q) _ rfl);have k:=Hq (i.other (t:=36) H1.out.Ag (by decide) (by decide) (by decide) (Ai X.s q));generalize y.setRow w.heap.size (Ai X.s q)=w2 at f k ⊢;clear j i b H1 c o r
 try simp only[Act.put]
 go_wp2_with(first|with_reducible refine lL f.out.Ag Ak ?_|with_reducible refine lS (Ai X.s q) f.out.Ax ?_)
 refine rT3 "" (X.e) f.out.Ax Ak ?_;exact v.out _ q (k.out.other (t:=36) f.out.Ax (by decide) (by decide) (by decide) _) (f.out.row 2 (Ai X.s q) _ rfl).below
theorem oT {N n B:Nat}(s:Tx.St)(p:SP)(fs:List Fr)(u:Wf N n B s fs)(z:B≤1000000)(A:N≤3000)(a:D1)(g:a.kind=2)(w:World)(h:An w s p fs):
 Cq 48 #[Af s p,.agg (F5 a)] w (Fi (Cx s fs a) w):=by
 have c:=Hq (fun W (m:Bw w W)=>aB s p fs u z A a.page W (h.below m));have d:=Hq (show Cx s fs a=(Ff s fs a.page,⟨#[]⟩)from by unfold Cx;rw[if_neg (by rw[g];decide)];rw[if_neg (by rw[g];decide)];rw[if_pos g]);generalize Ff s fs a.page=X at c d;have v:=Hq (fun w' (q:SP) (C:An w' X.s q X.fs) (m:Bw w w')=>show Fi (Cx s fs a) w (.returned (.tuple #[Af X.s q,"",X.e])) w' from by rw[d.out];exact⟨q,rfl,C,m⟩);generalize Fi (Cx s fs a) w=Q at v ⊢;clear h u d;have D:=Hq g;clear g;go_enter Tryz.func48,Tryz.ntmps48;go_upto_region 1 with fail;have b:=Jo w (Ai s p) 36 (F5 a) 90 Zq9 36;obtain⟨x,i⟩:=Dr b;rw[← i]at b ⊢;clear i;have o:=show x.cell? ⟨w.heap.size+1,0,none⟩=some (.int .i64 2)from by rw[Aa b.out.Ah,← D.out];rfl
 have r:=show x.cell? ⟨w.heap.size+1,1,none⟩=some (.int .i64 a.page)from by rw[Aa b.out.Ah];rfl
 go_upto_region 21 with(first
  |with_reducible refine lL b.out.Ag Ak ?_
  |(go_at_call 115;refine(c.out _ b.out.below).mono ?_;rintro e y ⟨q,rfl,j,k⟩;have H1:=Hq (b.out.step k))
  |with_reducible refine lS (Ai X.s q) H1.out.Ag ?_)
 have f:=Hq (show Dm w.heap.size w [((Ai X.s q),36),((F5 a),90),(Zq9,36)] (y.setRow w.heap.size (Ai X.s q))from H1.out.row 0 (Ai X.s q) _ rfl);have l:=Hq (j.other (t:=36) H1.out.Ag (by decide) (by decide) (by decide) (Ai X.s q));generalize y.setRow w.heap.size (Ai X.s q)=w2 at f l ⊢;clear k j b H1 c o r
 try simp only[Act.put]
 go_wp2_with(first|with_reducible refine lL f.out.Ag Ak ?_|with_reducible refine lS (Ai X.s q) f.out.Ax ?_)
 refine rT3 "" (X.e) f.out.Ax Ak ?_;exact v.out _ q (l.out.other (t:=36) f.out.Ax (by decide) (by decide) (by decide) _) (f.out.row 2 (Ai X.s q) _ rfl).below
theorem oU {N n B:Nat}(s:Tx.St)(p:SP)(fs:List Fr)(u:Wf N n B s fs)(z:B≤1000000)(A:N≤3000)(a:D1)(c:a.kind=5)(w:World)(h:An w s p fs):
 Cq 48 #[Af s p,.agg (F5 a)] w (Fi (Cx s fs a) w):=by
 have d:=Hq (fun W (m:Bw w W)=>Qt s p fs u z A a.page W (h.below m));have f:=Hq (show Cx s fs a=(Df s fs a.page,⟨#[]⟩)from by unfold Cx;rw[if_neg (by rw[c];decide)];rw[if_neg (by rw[c];decide)];rw[if_neg (by rw[c];decide)];rw[if_neg (by rw[c];decide)];rw[if_pos c]);generalize Df s fs a.page=X at d f;have v:=Hq (fun w' (q:SP) (C:An w' X.s q X.fs) (m:Bw w w')=>show Fi (Cx s fs a) w (.returned (.tuple #[Af X.s q,"",X.e])) w' from by rw[f.out];exact⟨q,rfl,C,m⟩);generalize Fi (Cx s fs a) w=Q at v ⊢;clear h u f;have D:=Hq c;clear c;go_enter Tryz.func48,Tryz.ntmps48;go_upto_region 1 with fail;have b:=Jo w (Ai s p) 36 (F5 a) 90 Zq9 36;obtain⟨x,i⟩:=Dr b;rw[← i]at b ⊢;clear i;have o:=show x.cell? ⟨w.heap.size+1,0,none⟩=some (.int .i64 5)from by rw[Aa b.out.Ah,← D.out];rfl
 have r:=show x.cell? ⟨w.heap.size+1,1,none⟩=some (.int .i64 a.page)from by rw[Aa b.out.Ah];rfl
 go_upto_region 21 with(first
  |with_reducible refine lL b.out.Ag Ak ?_
  |(go_at_call 117;refine(d.out _ b.out.below).mono ?_;rintro e y ⟨q,rfl,j,k⟩;have H1:=Hq (b.out.step k))
  |with_reducible refine lS (Ai X.s q) H1.out.Ag ?_)
 have g:=Hq (show Dm w.heap.size w [((Ai X.s q),36),((F5 a),90),(Zq9,36)] (y.setRow w.heap.size (Ai X.s q))from H1.out.row 0 (Ai X.s q) _ rfl);have l:=Hq (j.other (t:=36) H1.out.Ag (by decide) (by decide) (by decide) (Ai X.s q));generalize y.setRow w.heap.size (Ai X.s q)=w2 at g l ⊢;clear k j b H1 d o r
 try simp only[Act.put]
 go_wp2_with(first|with_reducible refine lL g.out.Ag Ak ?_|with_reducible refine lS (Ai X.s q) g.out.Ax ?_)
 refine rT3 "" (X.e) g.out.Ax Ak ?_;exact v.out _ q (l.out.other (t:=36) g.out.Ax (by decide) (by decide) (by decide) _) (g.out.row 2 (Ai X.s q) _ rfl).below
theorem oV {N n B:Nat}(s:Tx.St)(p:SP)(fs:List Fr)(u:Wf N n B s fs)(z:B≤1000000)(A:N≤3000)(a:D1)(b:a.kind=6)(w:World)(h:An w s p fs):
 Cq 48 #[Af s p,.agg (F5 a)] w (Fi (Cx s fs a) w):=by
 have d:=Hq (fun W (m:Bw w W)=>kA s p fs u z A W (h.below m));have f:=Hq (show Cx s fs a=(Qz s fs,⟨#[]⟩)from by unfold Cx;rw[if_neg (by rw[b];decide)];rw[if_neg (by rw[b];decide)];rw[if_neg (by rw[b];decide)];rw[if_neg (by rw[b];decide)];rw[if_neg (by rw[b];decide)];rw[if_pos b]);generalize Qz s fs=X at d f;have v:=Hq (fun w' (q:SP) (C:An w' X.s q X.fs) (m:Bw w w')=>show Fi (Cx s fs a) w (.returned (.tuple #[Af X.s q,"",X.e])) w' from by rw[f.out];exact⟨q,rfl,C,m⟩);generalize Fi (Cx s fs a) w=Q at v ⊢;clear h u f;have D:=Hq b;clear b;go_enter Tryz.func48,Tryz.ntmps48;go_upto_region 1 with fail;have c:=Jo w (Ai s p) 36 (F5 a) 90 Zq9 36;obtain⟨x,i⟩:=Dr c;rw[← i]at c ⊢;clear i;have o:=show x.cell? ⟨w.heap.size+1,0,none⟩=some (.int .i64 6)from by rw[Aa c.out.Ah,← D.out];rfl
 have r:=show x.cell? ⟨w.heap.size+1,1,none⟩=some (.int .i64 a.page)from by rw[Aa c.out.Ah];rfl
 go_upto_region 21 with(first
  |with_reducible refine lL c.out.Ag Ak ?_
  |(go_at_call 118;refine(d.out _ c.out.below).mono ?_;rintro e y ⟨q,rfl,j,k⟩;have H1:=Hq (c.out.step k))
  |with_reducible refine lS (Ai X.s q) H1.out.Ag ?_)
 have g:=Hq (show Dm w.heap.size w [((Ai X.s q),36),((F5 a),90),(Zq9,36)] (y.setRow w.heap.size (Ai X.s q))from H1.out.row 0 (Ai X.s q) _ rfl);have l:=Hq (j.other (t:=36) H1.out.Ag (by decide) (by decide) (by decide) (Ai X.s q));generalize y.setRow w.heap.size (Ai X.s q)=w2 at g l ⊢;clear k j c H1 d o r
 try simp only[Act.put]
 go_wp2_with(first|with_reducible refine lL g.out.Ag Ak ?_|with_reducible refine lS (Ai X.s q) g.out.Ax ?_)
 refine rT3 "" (X.e) g.out.Ax Ak ?_;exact v.out _ q (l.out.other (t:=36) g.out.Ax (by decide) (by decide) (by decide) _) (g.out.row 2 (Ai X.s q) _ rfl).below
theorem oW {N n B:Nat}(s:Tx.St)(p:SP)(fs:List Fr)(I:Wf N n B s fs)(_:B≤1000000)(U:N≤3000)(a:D1)(hk:a.kind=3∨a.kind=4)(V:a.o.new.size≤140737488355328)(w:World)(_:Gf w)(h:An w s p fs):
 Cq 48 #[Af s p,.agg (F5 a)] w (Fi (Cx s fs a) w):=by
 have A:=Hq (fun W=>Zs a W);have m:=Hq (fun W (H:Bw w W)=>show Cq 116 #[Af s p,.agg (D7 (He a) (.slice none 0 0) (.slice none 0 0))] W (Bk (D5 s fs (He a) (Ti a.o)) W)from by
  unfold He
  split
  ·exact O2 s p fs I U 3 (.inr rfl) 1 a.page a.n a.o 0 0 Rc.Ey (Ti a.o) (L8 a.o) W (fun b J L M=>Wp b ⟨a.o.kind,a.o.slot,a.o.Bd,a.o.new⟩ (by omega) V J) (h.below H)
  ·exact O2 s p fs I U 2 (.inl rfl) 1 a.page 0 a.o 1 0 Rc.Ey (Ti a.o) (L8 a.o) W (fun b J L M=>Wp b ⟨a.o.kind,a.o.slot,a.o.Bd,a.o.new⟩ (by omega) V J) (h.below H))
 have r:=Hq (show Cx s fs a=(D5 s fs (He a) (Ti a.o),⟨#[]⟩)from by unfold Cx;rw[if_neg (by omega),if_neg (by omega),if_neg (by omega),if_pos hk]);generalize D5 s fs (He a) (Ti a.o)=X at m r;generalize (D7 (He a) (.slice none 0 0) (.slice none 0 0))=rv at A m;have Y:=Hq (fun w' (q:SP) (hp:An w' X.s q X.fs) (H:Bw w w')=>show Fi (Cx s fs a) w (.returned (.tuple #[Af X.s q,"",X.e])) w' from by rw[r.out];exact⟨q,rfl,hp,H⟩);generalize Fi (Cx s fs a) w=Q at Y ⊢;clear h I r;have O:(a.kind==0)=false:=beq_eq_false_iff_ne.2 (by omega);have P:(a.kind==1)=false:=beq_eq_false_iff_ne.2 (by omega);have R:(a.kind==2)=false:=beq_eq_false_iff_ne.2 (by omega);go_enter Tryz.func48,Tryz.ntmps48;go_upto_region 1 with fail;have j:=Jo w (Ai s p) 36 (F5 a) 90 Zq9 36;obtain⟨Z,C⟩:=Dr j;rw[← C]at j ⊢;clear C;have T:=show Z.cell? ⟨w.heap.size+1,0,none⟩=some (.int .i64 a.kind)from by rw[Aa j.out.Ah];rfl
 go_upto_if 43 with fail
 go_cut [43] (fun x wc=>x= .bool true∧wc=Z)
 case first=>
  rcases hk with hk|hk
  ·have D:(a.kind==3)=true:=by rw[hk];rfl
   clear hk;go_wp2_with fail;go_meet
   case rel=>exact⟨congrArg Value.bool D,rfl⟩
  ·have D:(a.kind==3)=false:=by rw[hk];rfl
   have a1:(a.kind==4)=true:=(by rw[hk];rfl);clear hk;go_wp2_with fail;go_meet
   case rel=>exact⟨rfl,rfl⟩
 case rest=>
  obtain⟨rfl,rfl⟩:=hcut;obtain⟨E,rfl⟩:=ex wc;clear hk O P R T;go_upto_region 12 with fail;have k:=Hq (fun(u:World) (hu:Bw E u)=>show u.heap[w.heap.size]? =some (.cells (Ai s p) 36 (0,0))∧u.heap[w.heap.size+1]? =some (.cells (F5 a) 90 (0,0))from⟨Ac j.out.Ag hu,Ac j.out.Ah hu⟩);have c:Bw E E.drew:=(Below.refl _ E).drew;have hSn:=k.out _ c;refine Ig (S:=(fun u=>u.heap[w.heap.size]? =some (.cells (Ai s p) 36 (0,0))∧u.heap[w.heap.size+1]? =some (.cells (F5 a) 90 (0,0)))) 7 Kr ?_ (fun d=>?_)
  ·exact hSn
  generalize E.drew=w8 at c hSn ⊢;refine tA 0 [7] Ak ?_;refine tA 1 [7] rU ?_;refine Ce (rs:=[2]) Kr (by simp) ?_;refine(Bc.cons (o:={dst:=some 49,op:=_,type:=_,pos:=_,after:=_,guard:=_}) rfl (fun K l=>?_) Bc.nil)
  go_simp
  (refine(A.out _).mono ?_);rintro e w9 ⟨rfl,f⟩;have g:=Ae c f;clear c hSn f;have c:=g;clear g;have hSn:=k.out _ c
  refine Bl l (fun d=>?_);clear l K;refine Ce (rs:=[3]) Kr (by simp) ?_;refine(Bc.cons (o:={dst:=some 50,op:=_,type:=_,pos:=_,after:=_,guard:=_}) rfl (fun K l=>?_) Bc.nil)
  go_simp
  (refine(m.out _ (j.out.below.trans (c.mono j.out.below.size))).mono ?_);rintro e w9 ⟨q,rfl,F,f⟩;have g:=Ae c f;clear c hSn f;have c:=g;clear g;have hSn:=k.out _ c
  refine Bl l (fun d=>?_);clear l K;refine Xj 4 [7] ?_;refine Xj 5 [7] ?_;refine Ge (i:=6) (oi:={dst:=some 52,op:=_,type:=_,pos:=_,after:=_,guard:=_}) (v:=?_) rfl Kr Kr Kr Kr (fun _ _ _ h=>h) (Or.inl ⟨by rfl,?_⟩) (fun _=>by assumption) ?_
  rotate_left
  ·intro u y;clear y;go_simp;(try with_reducible rfl)
  try simp only[Act.put,pS]
  refine Ce (rs:=[7]) Kr (by simp) ?_;refine(Bc.last (o:={dst:=none,op:=_,type:=_,pos:=_,after:=_,guard:=_}) rfl Kr (fun K l=>?_) Bc.nil);refine Az (by rfl) ?_;refine sW (Ai X.s q) hSn.1 ?_;refine l.out _ _ ?_;clear l K
  try simp only[Act.put]
  refine Ge (i:=8) (oi:={dst:=some 8,op:=_,type:=_,pos:=_,after:=_,guard:=_}) (v:=?_) rfl Kr Kr Kr Kr (fun _ _ _ h=>h) (Or.inl ⟨by rfl,?_⟩) (fun h=>absurd h (by decide)) ?_
  rotate_left
  ·intro u y;clear y;go_simp;(try with_reducible rfl)
  try simp only[Act.put,pS]
  refine Ie Kr ?_ _;have z:=Hq (show Dm w.heap.size w [((Ai X.s q),36),((F5 a),90),(Zq9,36)] _ from(j.out.step c).row 0 (Ai X.s q) _ rfl);have G:=Hq (F.other (t:=36) hSn.1 (by decide) (by decide) (by decide) (Ai X.s q));generalize World.setRow _ w.heap.size (Ai X.s q)=w3 at z G ⊢;clear F hSn c k j
  go_wp2_with(first|with_reducible refine lL z.out.Ag Ak ?_|with_reducible refine lS (Ai X.s q) z.out.Ax ?_)
  refine rT3 "" (X.e) z.out.Ax Ak ?_;exact Y.out _ q (G.out.other (t:=36) z.out.Ax (by decide) (by decide) (by decide) _) (z.out.row 2 (Ai X.s q) _ rfl).below
theorem oX (s:Tx.St)(p:SP)(fs:List Fr)(a:D1)(q:a.kind<0)(w:World)(h:An w s p fs):
 Cq 48 #[Af s p,.agg (F5 a)] w (Fi (Cx s fs a) w):=by
 have d:=Hq (fun W=>Mm s.Am p.A p.c W);have f:=Hq (show Cx s fs a=(⟨{s with Am:=Lg.Bp s.Am},fs,0⟩,⟨#[]⟩)from by unfold Cx;rw[if_neg (by omega),if_neg (by omega),if_neg (by omega),if_neg (by omega),if_neg (by omega),if_neg (by omega)]);have l:=Hq (show An w {s with Am:=Lg.Bp s.Am} p fs from⟨⟨⟨h.st.dk.secs,h.st.dk.small⟩,h.st.dt,h.st.tx,h.st.tt⟩,h.fn,h.fr,h.ft⟩);have m:=Hq (fun w' (n:Bw w w')=>show Fi (Cx s fs a) w (.returned (.tuple #[Af {s with Am:=Lg.Bp s.Am} p,"",()])) w' from by rw[f.out];exact⟨p,rfl,l.out.below n,n⟩);generalize Fi (Cx s fs a) w=Q at m ⊢;clear h f l;have r:(a.kind==0)=false:=beq_eq_false_iff_ne.2 (by omega);have t:(a.kind==1)=false:=beq_eq_false_iff_ne.2 (by omega);have u:(a.kind==2)=false:=beq_eq_false_iff_ne.2 (by omega);have v:(a.kind==3)=false:=beq_eq_false_iff_ne.2 (by omega);have x:(a.kind==4)=false:=beq_eq_false_iff_ne.2 (by omega);have y:(a.kind==5)=false:=beq_eq_false_iff_ne.2 (by omega);have z:(a.kind==6)=false:=beq_eq_false_iff_ne.2 (by omega);have B:(a.kind==7)=false:=beq_eq_false_iff_ne.2 (by omega);have C:(a.kind==8)=false:=beq_eq_false_iff_ne.2 (by omega);clear q;go_enter Tryz.func48,Tryz.ntmps48;go_upto_region 1 with fail;have b:=Jo w (Ai s p) 36 (F5 a) 90 Zq9 36;obtain⟨D,g⟩:=Dr b;rw[← g]at b ⊢;clear g;have k:=show D.cell? ⟨w.heap.size+1,0,none⟩=some (.int .i64 a.kind)from by rw[Aa b.out.Ah];rfl
 go_upto_region 21 with(first
  |with_reducible refine lP #[.slice p.A s.Am.sectors.length p.c,s.Am.left,s.Am.down] b.out.Ag Bz ?_
  |(go_at_call 113;refine(d.out _).mono ?_;rintro e o ⟨rfl,i⟩;have H1:=Hq (b.out.step i))
  |with_reducible refine lU #[.slice p.A (Lg.Bp s.Am).sectors.length p.c,.int .i64 (Lg.Bp s.Am).left,.bool (Lg.Bp s.Am).down] (Ai {s with Am:=Lg.Bp s.Am} p) H1.out.Ag ?_)
 have j:=Hq (show Dm w.heap.size w [((Ai {s with Am:=Lg.Bp s.Am} p),36),((F5 a),90),(Zq9,36)] (o.setRow w.heap.size (Ai {s with Am:=Lg.Bp s.Am} p))from H1.out.row 0 (Ai {s with Am:=Lg.Bp s.Am} p) _ rfl);generalize o.setRow w.heap.size (Ai {s with Am:=Lg.Bp s.Am} p)=w2 at j ⊢;clear i b H1 d k
 try simp only[Act.put]
 go_wp2_with(first|with_reducible refine lL j.out.Ag Ak ?_|with_reducible refine lS (Ai {s with Am:=Lg.Bp s.Am} p) j.out.Ax ?_)
 refine rT3 "" () j.out.Ax Ak ?_;exact m.out _ (j.out.row 2 (Ai {s with Am:=Lg.Bp s.Am} p) _ rfl).below
theorem dU {N n B:Nat}(s:Tx.St)(p:SP)(fs:List Fr)(b:Wf N n B s fs)(c:B≤1000000)(d:N≤3000)(a:D1)(i:a.kind<7)(e:a.o.new.size≤140737488355328)(w:World)(f:Gf w)(h:An w s p fs):
 Cq 48 #[Af s p,.agg (F5 a)] w (Fi (Cx s fs a) w):=by
 have g:a.kind<0∨a.kind=0∨a.kind=1∨a.kind=2∨(a.kind=3∨a.kind=4)∨a.kind=5∨a.kind=6:=by omega
 rcases g with h1|h1|h1|h1|h1|h1|h1
 ·exact oX s p fs a h1 w h
 ·exact oR s p fs b c d a h1 w h
 ·exact oS s p fs b c d a h1 w h
 ·exact oT s p fs b c d a h1 w h
 ·exact oW s p fs b c d a h1 e w f h
 ·exact oU s p fs b c d a h1 w h
 ·exact oV s p fs b c d a h1 w h
theorem oY (s:Tx.St)(p:SP)(fs:List Fr)(a:D1)(q:a.kind<0∨8<a.kind)(w:World)(h:An w s p fs):
 Cq 48 #[Af s p,.agg (F5 a)] w (Fi (G6 s fs a) w):=by
 have d:=Hq (fun W=>Mm s.Am p.A p.c W);have f:=Hq (show G6 s fs a=(⟨{s with Am:=Lg.Bp s.Am},fs,0⟩,⟨#[]⟩)from by unfold G6 Cx;rw[if_neg (by omega),if_neg (by omega),if_neg (by omega),if_neg (by omega),if_neg (by omega),if_neg (by omega),if_neg (by omega)]);have l:=Hq (show An w {s with Am:=Lg.Bp s.Am} p fs from⟨⟨⟨h.st.dk.secs,h.st.dk.small⟩,h.st.dt,h.st.tx,h.st.tt⟩,h.fn,h.fr,h.ft⟩);have m:=Hq (fun w' (n:Bw w w')=>show Fi (G6 s fs a) w (.returned (.tuple #[Af {s with Am:=Lg.Bp s.Am} p,"",()])) w' from by rw[f.out];exact⟨p,rfl,l.out.below n,n⟩);generalize Fi (G6 s fs a) w=Q at m ⊢;clear h f l;have r:(a.kind==0)=false:=beq_eq_false_iff_ne.2 (by omega);have t:(a.kind==1)=false:=beq_eq_false_iff_ne.2 (by omega);have u:(a.kind==2)=false:=beq_eq_false_iff_ne.2 (by omega);have v:(a.kind==3)=false:=beq_eq_false_iff_ne.2 (by omega);have x:(a.kind==4)=false:=beq_eq_false_iff_ne.2 (by omega);have y:(a.kind==5)=false:=beq_eq_false_iff_ne.2 (by omega);have z:(a.kind==6)=false:=beq_eq_false_iff_ne.2 (by omega);have B:(a.kind==7)=false:=beq_eq_false_iff_ne.2 (by omega);have C:(a.kind==8)=false:=beq_eq_false_iff_ne.2 (by omega);clear q;go_enter Tryz.func48,Tryz.ntmps48;go_upto_region 1 with fail;have b:=Jo w (Ai s p) 36 (F5 a) 90 Zq9 36;obtain⟨D,g⟩:=Dr b;rw[← g]at b ⊢;clear g;have k:=show D.cell? ⟨w.heap.size+1,0,none⟩=some (.int .i64 a.kind)from by rw[Aa b.out.Ah];rfl
 go_upto_region 21 with(first
  |with_reducible refine lP #[.slice p.A s.Am.sectors.length p.c,s.Am.left,s.Am.down] b.out.Ag Bz ?_
  |(go_at_call 113;refine(d.out _).mono ?_;rintro e o ⟨rfl,i⟩;have H1:=Hq (b.out.step i))
  |with_reducible refine lU #[.slice p.A (Lg.Bp s.Am).sectors.length p.c,.int .i64 (Lg.Bp s.Am).left,.bool (Lg.Bp s.Am).down] (Ai {s with Am:=Lg.Bp s.Am} p) H1.out.Ag ?_)
 have j:=Hq (show Dm w.heap.size w [((Ai {s with Am:=Lg.Bp s.Am} p),36),((F5 a),90),(Zq9,36)] (o.setRow w.heap.size (Ai {s with Am:=Lg.Bp s.Am} p))from H1.out.row 0 (Ai {s with Am:=Lg.Bp s.Am} p) _ rfl);generalize o.setRow w.heap.size (Ai {s with Am:=Lg.Bp s.Am} p)=w2 at j ⊢;clear i b H1 d k
 try simp only[Act.put]
 go_wp2_with(first|with_reducible refine lL j.out.Ag Ak ?_|with_reducible refine lS (Ai {s with Am:=Lg.Bp s.Am} p) j.out.Ax ?_)
 refine rT3 "" () j.out.Ax Ak ?_;exact m.out _ (j.out.row 2 (Ai {s with Am:=Lg.Bp s.Am} p) _ rfl).below
theorem oZ (s:Tx.St)(p:SP)(fs:List Fr)(a:D1)(k:a.kind=8)(w:World)(h:An w s p fs):
 Cq 48 #[Af s p,.agg (F5 a)] w (Fi (G6 s fs a) w):=by
 have d:=Hq (fun W=>eH s.Am p.A p.c a.n W);have f:=Hq (show G6 s fs a=(⟨{s with Am:=Lg.Gz s.Am a.n},fs,0⟩,⟨#[]⟩)from by unfold G6;rw[if_pos k]);have m:=Hq (show An w {s with Am:=Lg.Gz s.Am a.n} p fs from⟨⟨⟨h.st.dk.secs,h.st.dk.small⟩,h.st.dt,h.st.tx,h.st.tt⟩,h.fn,h.fr,h.ft⟩);have o:=Hq (fun w' (q:Bw w w')=>show Fi (G6 s fs a) w (.returned (.tuple #[Af {s with Am:=Lg.Gz s.Am a.n} p,"",()])) w' from by rw[f.out];exact⟨p,rfl,m.out.below q,q⟩);generalize Fi (G6 s fs a) w=Q at o ⊢;clear h f m;have u:=Hq k;clear k;go_enter Tryz.func48,Tryz.ntmps48;go_upto_region 1 with fail;have b:=Jo w (Ai s p) 36 (F5 a) 90 Zq9 36;obtain⟨r,g⟩:=Dr b;rw[← g]at b ⊢;clear g;have l:=show r.cell? ⟨w.heap.size+1,0,none⟩=some (.int .i64 8)from by rw[Aa b.out.Ah,← u.out];rfl
 have v:=show r.cell? ⟨w.heap.size+1,2,none⟩=some (.int .i64 a.n)from by rw[Aa b.out.Ah];rfl
 go_upto_region 21 with(first
  |with_reducible refine lP #[.slice p.A s.Am.sectors.length p.c,s.Am.left,s.Am.down] b.out.Ag Bz ?_
  |(go_at_call 112;refine(d.out _).mono ?_;rintro e t ⟨rfl,i⟩;have H1:=Hq (b.out.step i))
  |with_reducible refine lU #[.slice p.A (Lg.Gz s.Am a.n).sectors.length p.c,.int .i64 (Lg.Gz s.Am a.n).left,.bool (Lg.Gz s.Am a.n).down] (Ai {s with Am:=Lg.Gz s.Am a.n} p) H1.out.Ag ?_)
 have j:=Hq (show Dm w.heap.size w [((Ai {s with Am:=Lg.Gz s.Am a.n} p),36),((F5 a),90),(Zq9,36)] (t.setRow w.heap.size (Ai {s with Am:=Lg.Gz s.Am a.n} p))from H1.out.row 0 (Ai {s with Am:=Lg.Gz s.Am a.n} p) _ rfl);generalize t.setRow w.heap.size (Ai {s with Am:=Lg.Gz s.Am a.n} p)=w2 at j ⊢;clear i b H1 d l
 try simp only[Act.put]
 go_wp2_with(first|with_reducible refine lL j.out.Ag Ak ?_|with_reducible refine lS (Ai {s with Am:=Lg.Gz s.Am a.n} p) j.out.Ax ?_)
 refine rT3 "" () j.out.Ax Ak ?_;exact o.out _ (j.out.row 2 (Ai {s with Am:=Lg.Gz s.Am a.n} p) _ rfl).below
theorem aE {N n B:Nat}(s:Tx.St)(p:SP)(fs:List Fr)(c:Wf N n B s fs)(d:B≤1000000)(f:N≤3000)(a:D1)(k:a.kind≠7)(g:a.o.new.size≤140737488355328)(w:World)(i:Gf w)(h:An w s p fs):
 Cq 48 #[Af s p,.agg (F5 a)] w (Fi (G6 s fs a) w):=by
 by_cases b:a.kind=8
 ·exact oZ s p fs a b w h
 ·by_cases j:a.kind<7
  ·have e:G6 s fs a=Cx s fs a:=by unfold G6;rw[if_neg b]
   rw[e];exact dU s p fs c d f a j g w i h
  ·exact oY s p fs a (.inr (by omega)) w h
theorem pA {N n B:Nat}(s:Tx.St)(p:SP)(fs:List Fr)(z:Wf N n B s fs)(_:B≤1000000)(E:N≤3000)(a:D1)(u:a.kind=7)(v:a.p.r.op.new.size≤140737488355328)(w:World)(_:Gf w)(h:An w s p fs):
 Cq 48 #[Af s p,.agg (F5 a)] w (Fi (Ks s fs a) w):=by
 have g:=Hq (fun W (x:Bw w W)=>show Cq 119 #[Af s p,.agg #[a.p.r.lsn,a.p.r.prev,a.p.r.txn,a.p.r.kind,a.p.r.page,a.p.r.next,a.p.r.num,a.p.r.op.kind,a.p.r.op.slot,a.p.r.op.Bd,a.p.r.op.new,a.p.r.how,a.p.r.root,a.p.r.e.key,a.p.r.e.page,a.p.r.e.slot,.slice a.p.A a.p.r.txns.length a.p.c,.slice a.p.B a.p.r.dirty.length a.p.d]] W (Bk (Gr s fs a.p.r (Ti a.p.r.op)) W)from dR s p fs z E a.p.r a.p.A a.p.r.txns.length a.p.c a.p.B a.p.r.dirty.length a.p.d v (Ti a.p.r.op) (L8 a.p.r.op) W (fun b G H I=>Wp b ⟨a.p.r.op.kind,a.p.r.op.slot,a.p.r.op.Bd,a.p.r.op.new⟩ (by omega) v G) (h.below x));have i:=Hq (show Ks s fs a=(Gr s fs a.p.r (Ti a.p.r.op),⟨#[]⟩)from by unfold Ks;rw[if_pos u]);generalize Gr s fs a.p.r (Ti a.p.r.op)=X at g i;have C:=Hq (fun w' (q:SP) (J:An w' X.s q X.fs) (x:Bw w w')=>show Fi (Ks s fs a) w (.returned (.tuple #[Af X.s q,"",X.e])) w' from by rw[i.out];exact⟨q,rfl,J,x⟩);generalize Fi (Ks s fs a) w=Q at C ⊢;clear h z i v;have K:=Hq u;clear u;go_enter Tryz.func48,Tryz.ntmps48;go_upto_region 1 with fail;have f:=Jo w (Ai s p) 36 (F5 a) 90 Zq9 36;obtain⟨L,k⟩:=Dr f;rw[← k]at f ⊢;clear k;have y:=show L.cell? ⟨w.heap.size+1,0,none⟩=some (.int .i64 7)from by rw[Aa f.out.Ah,← K.out];rfl
 go_upto_region 21 with(first
  |with_reducible refine lL f.out.Ag Ak ?_
  |with_reducible refine lP #[a.p.r.lsn,a.p.r.prev,a.p.r.txn,a.p.r.kind,a.p.r.page,a.p.r.next,a.p.r.num,a.p.r.op.kind,a.p.r.op.slot,a.p.r.op.Bd,a.p.r.op.new,a.p.r.how,a.p.r.root,a.p.r.e.key,a.p.r.e.page,a.p.r.e.slot,.slice a.p.A a.p.r.txns.length a.p.c,.slice a.p.B a.p.r.dirty.length a.p.d] f.out.Ah Ds ?_
  |(go_at_call 119;refine(g.out _ f.out.below).mono ?_;rintro e D ⟨q,rfl,l,m⟩;have H1:=Hq (f.out.step m))
  |with_reducible refine lS (Ai X.s q) H1.out.Ag ?_)
 have j:=Hq (show Dm w.heap.size w [((Ai X.s q),36),((F5 a),90),(Zq9,36)] (D.setRow w.heap.size (Ai X.s q))from H1.out.row 0 (Ai X.s q) _ rfl);have o:=Hq (l.other (t:=36) H1.out.Ag (by decide) (by decide) (by decide) (Ai X.s q));generalize D.setRow w.heap.size (Ai X.s q)=w2 at j o ⊢;clear m l f H1 g y
 try simp only[Act.put]
 go_wp2_with(first|with_reducible refine lL j.out.Ag Ak ?_|with_reducible refine lS (Ai X.s q) j.out.Ax ?_)
 refine rT3 "" (X.e) j.out.Ax Ak ?_;exact C.out _ q (o.out.other (t:=36) j.out.Ax (by decide) (by decide) (by decide) _) (j.out.row 2 (Ai X.s q) _ rfl).below
theorem aF {N n B:Nat}(s:Tx.St)(p:SP)(fs:List Fr)(d:Wf N n B s fs)(f:B≤1000000)(g:N≤3000)(a:D1)(j:a.o.new.size≤140737488355328)(b:a.p.r.op.new.size≤140737488355328)(w:World)(i:Gf w)(h:An w s p fs):
 Cq 48 #[Af s p,.agg (F5 a)] w (Fi (Ks s fs a) w):=by
 by_cases c:a.kind=7
 ·exact pA s p fs d f g a c b w i h
 ·have e:Ks s fs a=G6 s fs a:=by unfold Ks;rw[if_neg c]
  rw[e];exact aE s p fs d f g a c j w i h
def pB (n:Nat)(ez:Int)(w:World)(e:Ending)(w':World):Prop:=∃ (F:Option Addr) (c:Nat),e= .returned (.tuple #[.agg #[.slice F n c,()],ez])∧Bw w w'
theorem pC (z:Int):∃ (n:Nat) (ez:Int),(∀ W,Cq 43 #[z] W (pB n ez W))∧∀ W,Cq 44 #[.int .i64 (min z 1000)] W (pB n ez W):=by
 by_cases h:z<1∨64<z
 ·refine⟨0,1,fun W=>(oN z h W).mono fun e w' ⟨a,b⟩=>⟨none,0,a,b⟩,fun W=>(oO (min z 1000) (by omega) W).mono fun e w' ⟨a,b⟩=>⟨none,0,a,b⟩⟩
 ·obtain⟨k,rfl⟩:∃ k:Nat,z=(k:Int):=⟨z.toNat,by omega⟩
  have d:min (k:Int) 1000=(k:Int):=by omega
  rw[d];refine⟨k,0,fun W=>(jZ k (by omega) W).mono fun e w' c=>?_,fun W=>(kB k (by omega) W).mono fun e w' c=>?_⟩
  ·obtain⟨g,a,_,_,b⟩:=c
   exact⟨_,k,a,b⟩
  ·obtain⟨g,a,_,_,b⟩:=c
   exact⟨_,k,a,b⟩
theorem vY (s:Tx.St)(p:SP)(fs:List Fr)(b:fs.length≤1000)(x:Int)(w:World)(h:An w s p fs):
 Cr 50 #[Af s p,x] w (.int .i64 (Rk fs x)):=by
 refine(Mo s p fs b x w h).mono fun e w' c=>?_;obtain⟨m,rfl,d,f⟩:=c;refine⟨?_,f⟩;rcases d with⟨rfl,a⟩|⟨k,a,rfl,g,i⟩
 ·unfold Rk
  rw[Ik a]
 ·unfold Rk
  rw[Hc a g fun j _ l=>i j l]
theorem uM (a b:Int)(w:World):(binOp .neq 94 (.agg #[a,b]) (.agg #[a,b])).run Tryz.prog w= .ok (.bool false) w:=by
 have c:Tryz.prog.underlying 94=some (.struct (Tryz.prog.fieldsOf 94)):=by kernel_rfl
 have d:Tryz.prog.stoodInHeld 94=false:=by kernel_rfl
 rw[run_neq_struct,show(10000:Nat)=9999+1 from rfl,run_equalIn_agg w 9999 94 _ _ c d];simp only[Program.fieldsOf,tG]
 go_simp
theorem sI (fs:List Fr):(K4 fs).length≤fs.length:=by
 rw[L6,Sp.Jd];have h:=Ms fs fs.length
 rwa[List.take_length]at h
end Go.Proofs.YtmldoihahndcgaaGreatDoor
