import Derived.Test.YtdfkambdagoojaaGreatDoorHd00
import Derived.Test.YtdfkambdagoojaaGreatDoorHd16
import Derived.Test.YtdfkambdagoojaaGreatDoorHd08
import Derived.Test.YtdfkambdagoojaaGreatDoorHd07
set_option maxRecDepth 100000
set_option maxHeartbeats 16000000
set_option linter.unusedSimpArgs false
namespace Go.Proofs.YtdfkambdagoojaaGreatDoor
open Go.RowKit Sc
theorem wW {N n B:Nat}(s:Tx.St)(p:SP)(fs:List Fr)(z:Wf N n B s fs)(F:B≤1000000)(a:Gq)(u:a.kind=0)(w:World)(h:Ba w s p fs):
 Cq 9 #[Ar s p,.agg #[a.kind,a.Ab,a.n,a.o.kind,a.o.slot,a.o.A5,a.o.new,a.p.r.lsn,a.p.r.prev,a.p.r.txn,a.p.r.kind,a.p.r.Ab,a.p.r.next,a.p.r.num,a.p.r.op.kind,a.p.r.op.slot,a.p.r.op.A5,a.p.r.op.new,a.p.r.how,a.p.r.root,a.p.r.e.key,a.p.r.e.Ab,a.p.r.e.slot,.slice a.p.A a.p.r.txns.length a.p.c,.slice a.p.B a.p.r.dirty.length a.p.d]] w (M9 (Fu s fs a) w):=by
 have f:=Hq (fun W (v:Bw w W)=>Mi s p fs z F a.Ab W (h.below v));have g:=Hq (show Fu s fs a=J6 s fs a.Ab from by unfold Fu;rw[if_pos u]);generalize J6 s fs a.Ab=X at f g;have C:=Hq (fun w' (q:SP) (G:Ba w' X.1.s q X.1.fs) (v:Bw w w')=>show M9 (Fu s fs a) w (.returned (.tuple #[Ar X.1.s q,X.2,X.1.e])) w' from by rw[g.out];exact⟨q,rfl,G,v⟩);generalize M9 (Fu s fs a) w=Q at C ⊢;clear h z g;have H:=Hq u;clear u;go_enter Tryz.func9,Tryz.ntmps9;go_upto_region 1 with fail;have b:=Ti w (Au s p) 36 #[a.kind,a.Ab,a.n,a.o.kind,a.o.slot,a.o.A5,a.o.new,a.p.r.lsn,a.p.r.prev,a.p.r.txn,a.p.r.kind,a.p.r.Ab,a.p.r.next,a.p.r.num,a.p.r.op.kind,a.p.r.op.slot,a.p.r.op.A5,a.p.r.op.new,a.p.r.how,a.p.r.root,a.p.r.e.key,a.p.r.e.Ab,a.p.r.e.slot,.slice a.p.A a.p.r.txns.length a.p.c,.slice a.p.B a.p.r.dirty.length a.p.d] 49 #[(),(),(),'s',(),false,(),(),(),(),"",'s',(),'s',()] 36;obtain⟨D,j⟩:=Gz b;rw[← j]at b ⊢;clear j;have x:=show D.cell? ⟨w.heap.size+1,0,none⟩=some (.int .i64 0)from by rw[Aa b.out.As,← H.out];rfl
 have y:=show D.cell? ⟨w.heap.size+1,1,none⟩=some (.int .i64 a.Ab)from by rw[Aa b.out.As];rfl
 go_upto_region 21 with(first
  |with_reducible refine lL b.out.Am Az ?_
  |(go_at_call 27;refine(f.out _ b.out.below).mono ?_;rintro e E ⟨q,rfl,k,l⟩;have H1:=Hq (b.out.step l))
  |with_reducible refine lS (Au X.1.s q) H1.out.Am ?_)
 have i:=Hq (show Fc w.heap.size w [((Au X.1.s q),36),(#[a.kind,a.Ab,a.n,a.o.kind,a.o.slot,a.o.A5,a.o.new,a.p.r.lsn,a.p.r.prev,a.p.r.txn,a.p.r.kind,a.p.r.Ab,a.p.r.next,a.p.r.num,a.p.r.op.kind,a.p.r.op.slot,a.p.r.op.A5,a.p.r.op.new,a.p.r.how,a.p.r.root,a.p.r.e.key,a.p.r.e.Ab,a.p.r.e.slot,.slice a.p.A a.p.r.txns.length a.p.c,.slice a.p.B a.p.r.dirty.length a.p.d],49),(#[(),(),(),'s',(),false,(),(),(),(),"",'s',(),'s',()],36)] (E.setRow w.heap.size (Au X.1.s q))from H1.out.row 0 (Au X.1.s q) _ rfl);have m:=Hq (k.other (t:=36) H1.out.Am (by decide) (by decide) (by decide) (Au X.1.s q));generalize E.setRow w.heap.size (Au X.1.s q)=w2 at i m ⊢;clear l k b H1 f x y
 try simp only[Act.put]
 go_wp2_with(first|with_reducible refine lL i.out.Am Az ?_|with_reducible refine lS (Au X.1.s q) i.out.Cc ?_)
 refine rT3 (X.2) (X.1.e) i.out.Cc Az ?_;exact C.out _ q (m.out.other (t:=36) i.out.Cc (by decide) (by decide) (by decide) _) (i.out.row 2 (Au X.1.s q) _ rfl).below
theorem wX {N n B:Nat}(s:Tx.St)(p:SP)(fs:List Fr)(z:Wf N n B s fs)(F:B≤1000000)(a:Gq)(u:a.kind=1)(w:World)(h:Ba w s p fs):
 Cq 9 #[Ar s p,.agg #[a.kind,a.Ab,a.n,a.o.kind,a.o.slot,a.o.A5,a.o.new,a.p.r.lsn,a.p.r.prev,a.p.r.txn,a.p.r.kind,a.p.r.Ab,a.p.r.next,a.p.r.num,a.p.r.op.kind,a.p.r.op.slot,a.p.r.op.A5,a.p.r.op.new,a.p.r.how,a.p.r.root,a.p.r.e.key,a.p.r.e.Ab,a.p.r.e.slot,.slice a.p.A a.p.r.txns.length a.p.c,.slice a.p.B a.p.r.dirty.length a.p.d]] w (M9 (Fu s fs a) w):=by
 have f:=Hq (fun W (v:Bw w W)=>nN s p fs z F a.Ab W (h.below v));have g:=Hq (show Fu s fs a=(Qr s fs a.Ab,⟨#[]⟩)from by unfold Fu;rw[if_neg (by rw[u];decide)];rw[if_pos u]);generalize Qr s fs a.Ab=X at f g;have C:=Hq (fun w' (q:SP) (G:Ba w' X.s q X.fs) (v:Bw w w')=>show M9 (Fu s fs a) w (.returned (.tuple #[Ar X.s q,"",X.e])) w' from by rw[g.out];exact⟨q,rfl,G,v⟩);generalize M9 (Fu s fs a) w=Q at C ⊢;clear h z g;have H:=Hq u;clear u;go_enter Tryz.func9,Tryz.ntmps9;go_upto_region 1 with fail;have b:=Ti w (Au s p) 36 #[a.kind,a.Ab,a.n,a.o.kind,a.o.slot,a.o.A5,a.o.new,a.p.r.lsn,a.p.r.prev,a.p.r.txn,a.p.r.kind,a.p.r.Ab,a.p.r.next,a.p.r.num,a.p.r.op.kind,a.p.r.op.slot,a.p.r.op.A5,a.p.r.op.new,a.p.r.how,a.p.r.root,a.p.r.e.key,a.p.r.e.Ab,a.p.r.e.slot,.slice a.p.A a.p.r.txns.length a.p.c,.slice a.p.B a.p.r.dirty.length a.p.d] 49 #[(),(),(),'s',(),false,(),(),(),(),"",'s',(),'s',()] 36;obtain⟨D,j⟩:=Gz b;rw[← j]at b ⊢;clear j;have x:=show D.cell? ⟨w.heap.size+1,0,none⟩=some (.int .i64 1)from by rw[Aa b.out.As,← H.out];rfl
 have y:=show D.cell? ⟨w.heap.size+1,1,none⟩=some (.int .i64 a.Ab)from by rw[Aa b.out.As];rfl
 go_upto_region 21 with(first
  |with_reducible refine lL b.out.Am Az ?_
  |(go_at_call 32;refine(f.out _ b.out.below).mono ?_;rintro e E ⟨q,rfl,k,l⟩;have H1:=Hq (b.out.step l))
  |with_reducible refine lS (Au X.s q) H1.out.Am ?_)
 have i:=Hq (show Fc w.heap.size w [((Au X.s q),36),(#[a.kind,a.Ab,a.n,a.o.kind,a.o.slot,a.o.A5,a.o.new,a.p.r.lsn,a.p.r.prev,a.p.r.txn,a.p.r.kind,a.p.r.Ab,a.p.r.next,a.p.r.num,a.p.r.op.kind,a.p.r.op.slot,a.p.r.op.A5,a.p.r.op.new,a.p.r.how,a.p.r.root,a.p.r.e.key,a.p.r.e.Ab,a.p.r.e.slot,.slice a.p.A a.p.r.txns.length a.p.c,.slice a.p.B a.p.r.dirty.length a.p.d],49),(#[(),(),(),'s',(),false,(),(),(),(),"",'s',(),'s',()],36)] (E.setRow w.heap.size (Au X.s q))from H1.out.row 0 (Au X.s q) _ rfl);have m:=Hq (k.other (t:=36) H1.out.Am (by decide) (by decide) (by decide) (Au X.s q));generalize E.setRow w.heap.size (Au X.s q)=w2 at i m ⊢;clear l k b H1 f x y
 try simp only[Act.put]
 go_wp2_with(first|with_reducible refine lL i.out.Am Az ?_|with_reducible refine lS (Au X.s q) i.out.Cc ?_)
 refine rT3 "" (X.e) i.out.Cc Az ?_;exact C.out _ q (m.out.other (t:=36) i.out.Cc (by decide) (by decide) (by decide) _) (i.out.row 2 (Au X.s q) _ rfl).below
theorem wY {N n B:Nat}(s:Tx.St)(p:SP)(fs:List Fr)(z:Wf N n B s fs)(F:B≤1000000)(a:Gq)(j:a.kind=2)(w:World)(h:Ba w s p fs):
 Cq 9 #[Ar s p,.agg #[a.kind,a.Ab,a.n,a.o.kind,a.o.slot,a.o.A5,a.o.new,a.p.r.lsn,a.p.r.prev,a.p.r.txn,a.p.r.kind,a.p.r.Ab,a.p.r.next,a.p.r.num,a.p.r.op.kind,a.p.r.op.slot,a.p.r.op.A5,a.p.r.op.new,a.p.r.how,a.p.r.root,a.p.r.e.key,a.p.r.e.Ab,a.p.r.e.slot,.slice a.p.A a.p.r.txns.length a.p.c,.slice a.p.B a.p.r.dirty.length a.p.d]] w (M9 (Fu s fs a) w):=by
 have f:=Hq (fun W (v:Bw w W)=>cV s p fs z F a.Ab W (h.below v));have g:=Hq (show Fu s fs a=(E7 s fs a.Ab,⟨#[]⟩)from by unfold Fu;rw[if_neg (by rw[j];decide)];rw[if_neg (by rw[j];decide)];rw[if_pos j]);generalize E7 s fs a.Ab=X at f g;have C:=Hq (fun w' (q:SP) (G:Ba w' X.s q X.fs) (v:Bw w w')=>show M9 (Fu s fs a) w (.returned (.tuple #[Ar X.s q,"",X.e])) w' from by rw[g.out];exact⟨q,rfl,G,v⟩);generalize M9 (Fu s fs a) w=Q at C ⊢;clear h z g;have H:=Hq j;clear j;go_enter Tryz.func9,Tryz.ntmps9;go_upto_region 1 with fail;have b:=Ti w (Au s p) 36 #[a.kind,a.Ab,a.n,a.o.kind,a.o.slot,a.o.A5,a.o.new,a.p.r.lsn,a.p.r.prev,a.p.r.txn,a.p.r.kind,a.p.r.Ab,a.p.r.next,a.p.r.num,a.p.r.op.kind,a.p.r.op.slot,a.p.r.op.A5,a.p.r.op.new,a.p.r.how,a.p.r.root,a.p.r.e.key,a.p.r.e.Ab,a.p.r.e.slot,.slice a.p.A a.p.r.txns.length a.p.c,.slice a.p.B a.p.r.dirty.length a.p.d] 49 #[(),(),(),'s',(),false,(),(),(),(),"",'s',(),'s',()] 36;obtain⟨D,k⟩:=Gz b;rw[← k]at b ⊢;clear k;have x:=show D.cell? ⟨w.heap.size+1,0,none⟩=some (.int .i64 2)from by rw[Aa b.out.As,← H.out];rfl
 have y:=show D.cell? ⟨w.heap.size+1,1,none⟩=some (.int .i64 a.Ab)from by rw[Aa b.out.As];rfl
 go_upto_region 21 with(first
  |with_reducible refine lL b.out.Am Az ?_
  |(go_at_call 33;refine(f.out _ b.out.below).mono ?_;rintro e E ⟨q,rfl,l,m⟩;have H1:=Hq (b.out.step m))
  |with_reducible refine lS (Au X.s q) H1.out.Am ?_)
 have i:=Hq (show Fc w.heap.size w [((Au X.s q),36),(#[a.kind,a.Ab,a.n,a.o.kind,a.o.slot,a.o.A5,a.o.new,a.p.r.lsn,a.p.r.prev,a.p.r.txn,a.p.r.kind,a.p.r.Ab,a.p.r.next,a.p.r.num,a.p.r.op.kind,a.p.r.op.slot,a.p.r.op.A5,a.p.r.op.new,a.p.r.how,a.p.r.root,a.p.r.e.key,a.p.r.e.Ab,a.p.r.e.slot,.slice a.p.A a.p.r.txns.length a.p.c,.slice a.p.B a.p.r.dirty.length a.p.d],49),(#[(),(),(),'s',(),false,(),(),(),(),"",'s',(),'s',()],36)] (E.setRow w.heap.size (Au X.s q))from H1.out.row 0 (Au X.s q) _ rfl);have u:=Hq (l.other (t:=36) H1.out.Am (by decide) (by decide) (by decide) (Au X.s q));generalize E.setRow w.heap.size (Au X.s q)=w2 at i u ⊢;clear m l b H1 f x y
 try simp only[Act.put]
 go_wp2_with(first|with_reducible refine lL i.out.Am Az ?_|with_reducible refine lS (Au X.s q) i.out.Cc ?_)
 refine rT3 "" (X.e) i.out.Cc Az ?_;exact C.out _ q (u.out.other (t:=36) i.out.Cc (by decide) (by decide) (by decide) _) (i.out.row 2 (Au X.s q) _ rfl).below
theorem wZ {N n B:Nat}(s:Tx.St)(p:SP)(fs:List Fr)(z:Wf N n B s fs)(_hB:B≤1000000)(a:Gq)(f:a.kind=5)(w:World)(h:Ba w s p fs):
 Cq 9 #[Ar s p,.agg #[a.kind,a.Ab,a.n,a.o.kind,a.o.slot,a.o.A5,a.o.new,a.p.r.lsn,a.p.r.prev,a.p.r.txn,a.p.r.kind,a.p.r.Ab,a.p.r.next,a.p.r.num,a.p.r.op.kind,a.p.r.op.slot,a.p.r.op.A5,a.p.r.op.new,a.p.r.how,a.p.r.root,a.p.r.e.key,a.p.r.e.Ab,a.p.r.e.slot,.slice a.p.A a.p.r.txns.length a.p.c,.slice a.p.B a.p.r.dirty.length a.p.d]] w (M9 (Fu s fs a) w):=by
 have g:=Hq (fun W (v:Bw w W)=>Sv s p fs z a.Ab W (h.below v));have i:=Hq (show Fu s fs a=(D4 s fs a.Ab,⟨#[]⟩)from by unfold Fu;rw[if_neg (by rw[f];decide)];rw[if_neg (by rw[f];decide)];rw[if_neg (by rw[f];decide)];rw[if_neg (by rw[f];decide)];rw[if_pos f]);generalize D4 s fs a.Ab=X at g i;have C:=Hq (fun w' (q:SP) (F:Ba w' X.s q X.fs) (v:Bw w w')=>show M9 (Fu s fs a) w (.returned (.tuple #[Ar X.s q,"",X.e])) w' from by rw[i.out];exact⟨q,rfl,F,v⟩);generalize M9 (Fu s fs a) w=Q at C ⊢;clear h z i;have G:=Hq f;clear f;go_enter Tryz.func9,Tryz.ntmps9;go_upto_region 1 with fail;have b:=Ti w (Au s p) 36 #[a.kind,a.Ab,a.n,a.o.kind,a.o.slot,a.o.A5,a.o.new,a.p.r.lsn,a.p.r.prev,a.p.r.txn,a.p.r.kind,a.p.r.Ab,a.p.r.next,a.p.r.num,a.p.r.op.kind,a.p.r.op.slot,a.p.r.op.A5,a.p.r.op.new,a.p.r.how,a.p.r.root,a.p.r.e.key,a.p.r.e.Ab,a.p.r.e.slot,.slice a.p.A a.p.r.txns.length a.p.c,.slice a.p.B a.p.r.dirty.length a.p.d] 49 #[(),(),(),'s',(),false,(),(),(),(),"",'s',(),'s',()] 36;obtain⟨D,k⟩:=Gz b;rw[← k]at b ⊢;clear k;have x:=show D.cell? ⟨w.heap.size+1,0,none⟩=some (.int .i64 5)from by rw[Aa b.out.As,← G.out];rfl
 have y:=show D.cell? ⟨w.heap.size+1,1,none⟩=some (.int .i64 a.Ab)from by rw[Aa b.out.As];rfl
 go_upto_region 21 with(first
  |with_reducible refine lL b.out.Am Az ?_
  |(go_at_call 36;refine(g.out _ b.out.below).mono ?_;rintro e E ⟨q,rfl,l,m⟩;have H1:=Hq (b.out.step m))
  |with_reducible refine lS (Au X.s q) H1.out.Am ?_)
 have j:=Hq (show Fc w.heap.size w [((Au X.s q),36),(#[a.kind,a.Ab,a.n,a.o.kind,a.o.slot,a.o.A5,a.o.new,a.p.r.lsn,a.p.r.prev,a.p.r.txn,a.p.r.kind,a.p.r.Ab,a.p.r.next,a.p.r.num,a.p.r.op.kind,a.p.r.op.slot,a.p.r.op.A5,a.p.r.op.new,a.p.r.how,a.p.r.root,a.p.r.e.key,a.p.r.e.Ab,a.p.r.e.slot,.slice a.p.A a.p.r.txns.length a.p.c,.slice a.p.B a.p.r.dirty.length a.p.d],49),(#[(),(),(),'s',(),false,(),(),(),(),"",'s',(),'s',()],36)] (E.setRow w.heap.size (Au X.s q))from H1.out.row 0 (Au X.s q) _ rfl);have u:=Hq (l.other (t:=36) H1.out.Am (by decide) (by decide) (by decide) (Au X.s q));generalize E.setRow w.heap.size (Au X.s q)=w2 at j u ⊢;clear m l b H1 g x y
 try simp only[Act.put]
 go_wp2_with(first|with_reducible refine lL j.out.Am Az ?_|with_reducible refine lS (Au X.s q) j.out.Cc ?_)
 refine rT3 "" (X.e) j.out.Cc Az ?_;exact C.out _ q (u.out.other (t:=36) j.out.Cc (by decide) (by decide) (by decide) _) (j.out.row 2 (Au X.s q) _ rfl).below
theorem xA {N n B:Nat}(s:Tx.St)(p:SP)(fs:List Fr)(z:Wf N n B s fs)(_hB:B≤1000000)(a:Gq)(b:a.kind=6)(w:World)(h:Ba w s p fs):
 Cq 9 #[Ar s p,.agg #[a.kind,a.Ab,a.n,a.o.kind,a.o.slot,a.o.A5,a.o.new,a.p.r.lsn,a.p.r.prev,a.p.r.txn,a.p.r.kind,a.p.r.Ab,a.p.r.next,a.p.r.num,a.p.r.op.kind,a.p.r.op.slot,a.p.r.op.A5,a.p.r.op.new,a.p.r.how,a.p.r.root,a.p.r.e.key,a.p.r.e.Ab,a.p.r.e.slot,.slice a.p.A a.p.r.txns.length a.p.c,.slice a.p.B a.p.r.dirty.length a.p.d]] w (M9 (Fu s fs a) w):=by
 have g:=Hq (fun W (v:Bw w W)=>nT s p fs z W (h.below v));have i:=Hq (show Fu s fs a=(Te s fs,⟨#[]⟩)from by unfold Fu;rw[if_neg (by rw[b];decide)];rw[if_neg (by rw[b];decide)];rw[if_neg (by rw[b];decide)];rw[if_neg (by rw[b];decide)];rw[if_neg (by rw[b];decide)];rw[if_pos b]);generalize Te s fs=X at g i;have C:=Hq (fun w' (q:SP) (F:Ba w' X.s q X.fs) (v:Bw w w')=>show M9 (Fu s fs a) w (.returned (.tuple #[Ar X.s q,"",X.e])) w' from by rw[i.out];exact⟨q,rfl,F,v⟩);generalize M9 (Fu s fs a) w=Q at C ⊢;clear h z i;have G:=Hq b;clear b;go_enter Tryz.func9,Tryz.ntmps9;go_upto_region 1 with fail;have f:=Ti w (Au s p) 36 #[a.kind,a.Ab,a.n,a.o.kind,a.o.slot,a.o.A5,a.o.new,a.p.r.lsn,a.p.r.prev,a.p.r.txn,a.p.r.kind,a.p.r.Ab,a.p.r.next,a.p.r.num,a.p.r.op.kind,a.p.r.op.slot,a.p.r.op.A5,a.p.r.op.new,a.p.r.how,a.p.r.root,a.p.r.e.key,a.p.r.e.Ab,a.p.r.e.slot,.slice a.p.A a.p.r.txns.length a.p.c,.slice a.p.B a.p.r.dirty.length a.p.d] 49 #[(),(),(),'s',(),false,(),(),(),(),"",'s',(),'s',()] 36;obtain⟨D,k⟩:=Gz f;rw[← k]at f ⊢;clear k;have x:=show D.cell? ⟨w.heap.size+1,0,none⟩=some (.int .i64 6)from by rw[Aa f.out.As,← G.out];rfl
 have y:=show D.cell? ⟨w.heap.size+1,1,none⟩=some (.int .i64 a.Ab)from by rw[Aa f.out.As];rfl
 go_upto_region 21 with(first
  |with_reducible refine lL f.out.Am Az ?_
  |(go_at_call 37;refine(g.out _ f.out.below).mono ?_;rintro e E ⟨q,rfl,l,m⟩;have H1:=Hq (f.out.step m))
  |with_reducible refine lS (Au X.s q) H1.out.Am ?_)
 have j:=Hq (show Fc w.heap.size w [((Au X.s q),36),(#[a.kind,a.Ab,a.n,a.o.kind,a.o.slot,a.o.A5,a.o.new,a.p.r.lsn,a.p.r.prev,a.p.r.txn,a.p.r.kind,a.p.r.Ab,a.p.r.next,a.p.r.num,a.p.r.op.kind,a.p.r.op.slot,a.p.r.op.A5,a.p.r.op.new,a.p.r.how,a.p.r.root,a.p.r.e.key,a.p.r.e.Ab,a.p.r.e.slot,.slice a.p.A a.p.r.txns.length a.p.c,.slice a.p.B a.p.r.dirty.length a.p.d],49),(#[(),(),(),'s',(),false,(),(),(),(),"",'s',(),'s',()],36)] (E.setRow w.heap.size (Au X.s q))from H1.out.row 0 (Au X.s q) _ rfl);have u:=Hq (l.other (t:=36) H1.out.Am (by decide) (by decide) (by decide) (Au X.s q));generalize E.setRow w.heap.size (Au X.s q)=w2 at j u ⊢;clear m l f H1 g x y
 try simp only[Act.put]
 go_wp2_with(first|with_reducible refine lL j.out.Am Az ?_|with_reducible refine lS (Au X.s q) j.out.Cc ?_)
 refine rT3 "" (X.e) j.out.Cc Az ?_;exact C.out _ q (u.out.other (t:=36) j.out.Cc (by decide) (by decide) (by decide) _) (j.out.row 2 (Au X.s q) _ rfl).below
theorem xB {N n B:Nat}(s:Tx.St)(p:SP)(fs:List Fr)(R:Wf N n B s fs)(hB:B≤1000000)(a:Gq)(l:a.kind=3∨a.kind=4)(hz:a.o.new.size≤140737488355328)(w:World)(T:I8 w)(h:Ba w s p fs):
 Cq 9 #[Ar s p,.agg #[a.kind,a.Ab,a.n,a.o.kind,a.o.slot,a.o.A5,a.o.new,a.p.r.lsn,a.p.r.prev,a.p.r.txn,a.p.r.kind,a.p.r.Ab,a.p.r.next,a.p.r.num,a.p.r.op.kind,a.p.r.op.slot,a.p.r.op.A5,a.p.r.op.new,a.p.r.how,a.p.r.root,a.p.r.e.key,a.p.r.e.Ab,a.p.r.e.slot,.slice a.p.A a.p.r.txns.length a.p.c,.slice a.p.B a.p.r.dirty.length a.p.d]] w (M9 (Fu s fs a) w):=by
 have I:=Hq (fun W=>tJ a W);have C:=Hq (fun W (G:Bw w W)=>show Cq 34 #[Ar s p,.agg (Ec (Jt a) (.slice none 0 0) (.slice none 0 0))] W (Dq (Dy s fs (Jt a) (Lp a.o)) W)from by
  unfold Jt
  split
  ·exact Qv s p fs R hB 1 3 a.Ab a.n a.o 0 0 Rc.D6 (Lp a.o) (Jq a.o) W (fun b U V D=>iE b ⟨a.o.kind,a.o.slot,a.o.A5,a.o.new⟩ (by omega) hz U ((T.below G).below D)) (h.below G)
  ·exact Qv s p fs R hB 1 2 a.Ab 0 a.o 1 0 Rc.D6 (Lp a.o) (Jq a.o) W (fun b U V D=>iE b ⟨a.o.kind,a.o.slot,a.o.A5,a.o.new⟩ (by omega) hz U ((T.below G).below D)) (h.below G))
 have E:=Hq (show Fu s fs a=(Dy s fs (Jt a) (Lp a.o),⟨#[]⟩)from by unfold Fu;rw[if_neg (by omega),if_neg (by omega),if_neg (by omega),if_pos l]);generalize Dy s fs (Jt a) (Lp a.o)=X at C E;generalize (Ec (Jt a) (.slice none 0 0) (.slice none 0 0))=rv at I C;have HQ:=Hq (fun w' (q:SP) (hp:Ba w' X.s q X.fs) (G:Bw w w')=>show M9 (Fu s fs a) w (.returned (.tuple #[Ar X.s q,"",X.e])) w' from by rw[E.out];exact⟨q,rfl,hp,G⟩);generalize M9 (Fu s fs a) w=Q at HQ ⊢;clear h R E T;have Y:(a.kind==0)=false:=beq_eq_false_iff_ne.2 (by omega);have Z:(a.kind==1)=false:=beq_eq_false_iff_ne.2 (by omega);have a1:(a.kind==2)=false:=beq_eq_false_iff_ne.2 (by omega);go_enter Tryz.func9,Tryz.ntmps9;go_upto_region 1 with fail;have m:=Ti w (Au s p) 36 #[a.kind,a.Ab,a.n,a.o.kind,a.o.slot,a.o.A5,a.o.new,a.p.r.lsn,a.p.r.prev,a.p.r.txn,a.p.r.kind,a.p.r.Ab,a.p.r.next,a.p.r.num,a.p.r.op.kind,a.p.r.op.slot,a.p.r.op.A5,a.p.r.op.new,a.p.r.how,a.p.r.root,a.p.r.e.key,a.p.r.e.Ab,a.p.r.e.slot,.slice a.p.A a.p.r.txns.length a.p.c,.slice a.p.B a.p.r.dirty.length a.p.d] 49 #[(),(),(),'s',(),false,(),(),(),(),"",'s',(),'s',()] 36;obtain⟨W0,J⟩:=Gz m;rw[← J]at m ⊢;clear J;have a6:=show W0.cell? ⟨w.heap.size+1,0,none⟩=some (.int .i64 a.kind)from by rw[Aa m.out.As];rfl
 go_upto_if 43 with fail
 go_cut [43] (fun x wc=>x= .bool true∧wc=W0)
 case first=>
  rcases l with l|l
  ·have L:(a.kind==3)=true:=by rw[l];rfl
   clear l;go_wp2_with fail;go_meet
   case rel=>exact⟨congrArg Value.bool L,rfl⟩
  ·have L:(a.kind==3)=false:=by rw[l];rfl
   have a7:(a.kind==4)=true:=(by rw[l];rfl);clear l;go_wp2_with fail;go_meet
   case rel=>exact⟨rfl,rfl⟩
 case rest=>
  obtain⟨rfl,rfl⟩:=hcut;obtain⟨M,rfl⟩:=ex wc;clear l Y Z a1 a6;go_upto_region 12 with fail;have y:=Hq (fun(u:World) (hu:Bw M u)=>show u.heap[w.heap.size]? =some (.cells (Au s p) 36 (0,0))∧u.heap[w.heap.size+1]? =some (.cells #[a.kind,a.Ab,a.n,a.o.kind,a.o.slot,a.o.A5,a.o.new,a.p.r.lsn,a.p.r.prev,a.p.r.txn,a.p.r.kind,a.p.r.Ab,a.p.r.next,a.p.r.num,a.p.r.op.kind,a.p.r.op.slot,a.p.r.op.A5,a.p.r.op.new,a.p.r.how,a.p.r.root,a.p.r.e.key,a.p.r.e.Ab,a.p.r.e.slot,.slice a.p.A a.p.r.txns.length a.p.c,.slice a.p.B a.p.r.dirty.length a.p.d] 49 (0,0))from⟨Ae m.out.Am hu,Ae m.out.As hu⟩);have f:Bw M M.drew:=(Below.refl _ M).drew;have hSn:=y.out _ f;refine Gh (S:=(fun u=>u.heap[w.heap.size]? =some (.cells (Au s p) 36 (0,0))∧u.heap[w.heap.size+1]? =some (.cells #[a.kind,a.Ab,a.n,a.o.kind,a.o.slot,a.o.A5,a.o.new,a.p.r.lsn,a.p.r.prev,a.p.r.txn,a.p.r.kind,a.p.r.Ab,a.p.r.next,a.p.r.num,a.p.r.op.kind,a.p.r.op.slot,a.p.r.op.A5,a.p.r.op.new,a.p.r.how,a.p.r.root,a.p.r.e.key,a.p.r.e.Ab,a.p.r.e.slot,.slice a.p.A a.p.r.txns.length a.p.c,.slice a.p.B a.p.r.dirty.length a.p.d] 49 (0,0)))) 7 Kr ?_ (fun g=>?_)
  ·exact hSn
  generalize M.drew=w8 at f hSn ⊢;refine tzL 0 [7] Az ?_;refine tzL 1 [7] Abi ?_;refine Bg (rs:=[2]) Kr (by simp) ?_;refine(Ap.cons (o:={dst:=some 49,op:=_,type:=_,pos:=_,after:=_,guard:=_}) rfl (fun K z=>?_) Ap.nil)
  go_simp
  (refine(I.out _).mono ?_);rintro e w9 ⟨rfl,j⟩;have k:=Af f j;clear f hSn j;have f:=k;clear k;have hSn:=y.out _ f
  refine Db z (fun g=>?_);clear z K;refine Bg (rs:=[3]) Kr (by simp) ?_;refine(Ap.cons (o:={dst:=some 50,op:=_,type:=_,pos:=_,after:=_,guard:=_}) rfl (fun K z=>?_) Ap.nil)
  go_simp
  (refine(C.out _ (m.out.below.trans (f.mono m.out.below.size))).mono ?_);rintro e w9 ⟨q,rfl,O,j⟩;have k:=Af f j;clear f hSn j;have f:=k;clear k;have hSn:=y.out _ f
  refine Db z (fun g=>?_);clear z K;refine Oo 4 [7] ?_;refine Oo 5 [7] ?_;refine J7 (i:=6) (oi:={dst:=some 52,op:=_,type:=_,pos:=_,after:=_,guard:=_}) (v:=?_) rfl Kr Kr Kr Kr (fun _ _ _ h=>h) (Or.inl ⟨by rfl,?_⟩) (fun _=>by assumption) ?_
  rotate_left
  ·intro u F;clear F;go_simp;(try with_reducible rfl)
  try simp only[Act.put,pS]
  refine Bg (rs:=[7]) Kr (by simp) ?_;refine(Ap.last (o:={dst:=none,op:=_,type:=_,pos:=_,after:=_,guard:=_}) rfl Kr (fun K z=>?_) Ap.nil);refine Cp (by rfl) ?_;refine sW (Au X.s q) hSn.1 ?_;refine z.out _ _ ?_;clear z K
  try simp only[Act.put]
  refine J7 (i:=8) (oi:={dst:=some 8,op:=_,type:=_,pos:=_,after:=_,guard:=_}) (v:=?_) rfl Kr Kr Kr Kr (fun _ _ _ h=>h) (Or.inl ⟨by rfl,?_⟩) (fun h=>absurd h (by decide)) ?_
  rotate_left
  ·intro u F;clear F;go_simp;(try with_reducible rfl)
  try simp only[Act.put,pS]
  refine Gg Kr ?_ _;have H:=Hq (show Fc w.heap.size w [((Au X.s q),36),(#[a.kind,a.Ab,a.n,a.o.kind,a.o.slot,a.o.A5,a.o.new,a.p.r.lsn,a.p.r.prev,a.p.r.txn,a.p.r.kind,a.p.r.Ab,a.p.r.next,a.p.r.num,a.p.r.op.kind,a.p.r.op.slot,a.p.r.op.A5,a.p.r.op.new,a.p.r.how,a.p.r.root,a.p.r.e.key,a.p.r.e.Ab,a.p.r.e.slot,.slice a.p.A a.p.r.txns.length a.p.c,.slice a.p.B a.p.r.dirty.length a.p.d],49),(#[(),(),(),'s',(),false,(),(),(),(),"",'s',(),'s',()],36)] _ from(m.out.step f).row 0 (Au X.s q) _ rfl);have P:=Hq (O.other (t:=36) hSn.1 (by decide) (by decide) (by decide) (Au X.s q));generalize World.setRow _ w.heap.size (Au X.s q)=w3 at H P ⊢;clear O hSn f y m
  go_wp2_with(first|with_reducible refine lL H.out.Am Az ?_|with_reducible refine lS (Au X.s q) H.out.Cc ?_)
  refine rT3 "" (X.e) H.out.Cc Az ?_;exact HQ.out _ q (P.out.other (t:=36) H.out.Cc (by decide) (by decide) (by decide) _) (H.out.row 2 (Au X.s q) _ rfl).below
theorem xC (s:Tx.St)(p:SP)(fs:List Fr)(a:Gq)(v:a.kind<0)(w:World)(h:Ba w s p fs):
 Cq 9 #[Ar s p,.agg #[a.kind,a.Ab,a.n,a.o.kind,a.o.slot,a.o.A5,a.o.new,a.p.r.lsn,a.p.r.prev,a.p.r.txn,a.p.r.kind,a.p.r.Ab,a.p.r.next,a.p.r.num,a.p.r.op.kind,a.p.r.op.slot,a.p.r.op.A5,a.p.r.op.new,a.p.r.how,a.p.r.root,a.p.r.e.key,a.p.r.e.Ab,a.p.r.e.slot,.slice a.p.A a.p.r.txns.length a.p.c,.slice a.p.B a.p.r.dirty.length a.p.d]] w (M9 (Fu s fs a) w):=by
 have f:=Hq (fun W=>Rr s.Ai p.A p.c W);have g:=Hq (show Fu s fs a=(⟨{s with Ai:=Lg.Bs s.Ai},fs,0⟩,⟨#[]⟩)from by unfold Fu;rw[if_neg (by omega),if_neg (by omega),if_neg (by omega),if_neg (by omega),if_neg (by omega),if_neg (by omega)]);have m:=Hq (show Ba w {s with Ai:=Lg.Bs s.Ai} p fs from⟨⟨⟨h.st.dk.secs,h.st.dk.small⟩,h.st.dt,h.st.tx,h.st.tt⟩,h.fn,h.fr,h.ft⟩);have q:=Hq (fun w' (t:Bw w w')=>show M9 (Fu s fs a) w (.returned (.tuple #[Ar {s with Ai:=Lg.Bs s.Ai} p,"",()])) w' from by rw[g.out];exact⟨p,rfl,m.out.below t,t⟩);generalize M9 (Fu s fs a) w=Q at q ⊢;clear h g m;have x:(a.kind==0)=false:=beq_eq_false_iff_ne.2 (by omega);have y:(a.kind==1)=false:=beq_eq_false_iff_ne.2 (by omega);have z:(a.kind==2)=false:=beq_eq_false_iff_ne.2 (by omega);have C:(a.kind==3)=false:=beq_eq_false_iff_ne.2 (by omega);have D:(a.kind==4)=false:=beq_eq_false_iff_ne.2 (by omega);have E:(a.kind==5)=false:=beq_eq_false_iff_ne.2 (by omega);have F:(a.kind==6)=false:=beq_eq_false_iff_ne.2 (by omega);have G:(a.kind==7)=false:=beq_eq_false_iff_ne.2 (by omega);have H:(a.kind==8)=false:=beq_eq_false_iff_ne.2 (by omega);clear v;go_enter Tryz.func9,Tryz.ntmps9;go_upto_region 1 with fail;have b:=Ti w (Au s p) 36 #[a.kind,a.Ab,a.n,a.o.kind,a.o.slot,a.o.A5,a.o.new,a.p.r.lsn,a.p.r.prev,a.p.r.txn,a.p.r.kind,a.p.r.Ab,a.p.r.next,a.p.r.num,a.p.r.op.kind,a.p.r.op.slot,a.p.r.op.A5,a.p.r.op.new,a.p.r.how,a.p.r.root,a.p.r.e.key,a.p.r.e.Ab,a.p.r.e.slot,.slice a.p.A a.p.r.txns.length a.p.c,.slice a.p.B a.p.r.dirty.length a.p.d] 49 #[(),(),(),'s',(),false,(),(),(),(),"",'s',(),'s',()] 36;obtain⟨I,i⟩:=Gz b;rw[← i]at b ⊢;clear i;have l:=show I.cell? ⟨w.heap.size+1,0,none⟩=some (.int .i64 a.kind)from by rw[Aa b.out.As];rfl
 go_upto_region 21 with(first
  |with_reducible refine lP #[.slice p.A s.Ai.Ad.length p.c,s.Ai.left,s.Ai.down] b.out.Am Ej ?_
  |(go_at_call 10;refine(f.out _).mono ?_;rintro e u ⟨rfl,j⟩;have H1:=Hq (b.out.step j))
  |with_reducible refine lU #[.slice p.A (Lg.Bs s.Ai).Ad.length p.c,.int .i64 (Lg.Bs s.Ai).left,.bool (Lg.Bs s.Ai).down] (Au {s with Ai:=Lg.Bs s.Ai} p) H1.out.Am ?_)
 have k:=Hq (show Fc w.heap.size w [((Au {s with Ai:=Lg.Bs s.Ai} p),36),(#[a.kind,a.Ab,a.n,a.o.kind,a.o.slot,a.o.A5,a.o.new,a.p.r.lsn,a.p.r.prev,a.p.r.txn,a.p.r.kind,a.p.r.Ab,a.p.r.next,a.p.r.num,a.p.r.op.kind,a.p.r.op.slot,a.p.r.op.A5,a.p.r.op.new,a.p.r.how,a.p.r.root,a.p.r.e.key,a.p.r.e.Ab,a.p.r.e.slot,.slice a.p.A a.p.r.txns.length a.p.c,.slice a.p.B a.p.r.dirty.length a.p.d],49),(#[(),(),(),'s',(),false,(),(),(),(),"",'s',(),'s',()],36)] (u.setRow w.heap.size (Au {s with Ai:=Lg.Bs s.Ai} p))from H1.out.row 0 (Au {s with Ai:=Lg.Bs s.Ai} p) _ rfl);generalize u.setRow w.heap.size (Au {s with Ai:=Lg.Bs s.Ai} p)=w2 at k ⊢;clear j b H1 f l
 try simp only[Act.put]
 go_wp2_with(first|with_reducible refine lL k.out.Am Az ?_|with_reducible refine lS (Au {s with Ai:=Lg.Bs s.Ai} p) k.out.Cc ?_)
 refine rT3 "" () k.out.Cc Az ?_;exact q.out _ (k.out.row 2 (Au {s with Ai:=Lg.Bs s.Ai} p) _ rfl).below
theorem oP {N n B:Nat}(s:Tx.St)(p:SP)(fs:List Fr)(f:Wf N n B s fs)(g:B≤1000000)(a:Gq)(l:a.kind<7)(i:a.o.new.size≤140737488355328)(w:World)(j:I8 w)(h:Ba w s p fs):
 Cq 9 #[Ar s p,.agg #[a.kind,a.Ab,a.n,a.o.kind,a.o.slot,a.o.A5,a.o.new,a.p.r.lsn,a.p.r.prev,a.p.r.txn,a.p.r.kind,a.p.r.Ab,a.p.r.next,a.p.r.num,a.p.r.op.kind,a.p.r.op.slot,a.p.r.op.A5,a.p.r.op.new,a.p.r.how,a.p.r.root,a.p.r.e.key,a.p.r.e.Ab,a.p.r.e.slot,.slice a.p.A a.p.r.txns.length a.p.c,.slice a.p.B a.p.r.dirty.length a.p.d]] w (M9 (Fu s fs a) w):=by
 have k:a.kind<0∨a.kind=0∨a.kind=1∨a.kind=2∨(a.kind=3∨a.kind=4)∨a.kind=5∨a.kind=6:=by omega
 rcases k with b|b|b|b|b|b|b
 ·exact xC s p fs a b w h
 ·exact wW s p fs f g a b w h
 ·exact wX s p fs f g a b w h
 ·exact wY s p fs f g a b w h
 ·exact xB s p fs f g a b i w j h
 ·exact wZ s p fs f g a b w h
 ·exact xA s p fs f g a b w h
def hF (p:Int)(m:Bool):Fr:=⟨p,Gj (0:Nat),0,m,0⟩
theorem Qz (p:Int)(m:Bool):Full (hF p m):=Qt (Qn 0 (by omega)).1.is
theorem Pp {N n k:Nat}(b:1≤n∧n≤60∧N≤3000)(c:10≤N)(d:1≤k∧k≤64){p:Nat}(e:p<n):D7 (By N n k) (p:Int)=(Gj (0:Nat),0):=
 (dC b c d).read e fun⟨i,f,a,_⟩=>by rw[Full,Es f]at a;exact a rfl
theorem Zl {fs:List Fr}{a b:Fr}(h:fs=[a,b]){p:Int}(d:¬ (Full a∧a.Ab=p))(e:¬ (Full b∧b.Ab=p)):Oz fs p=none:=Nz fun x c=>by
 subst h
 simp at c
 rcases c with rfl|rfl
 ·exact d
 ·exact e
theorem yJ:Ao (By 700 8 2) (Ed 2) 0=(⟨By 700 8 2,[hF 0 true,X9],0⟩,0):=by
 have d:=Pp (N:=700) (n:=8) (k:=2) (by omega) (by omega) (by omega) (p:=0) (by omega);have e:Oz (Ed 2) 0=none:=Zl (a:=X9) (b:=X9) rfl (fun h=>h.1 rfl) (fun h=>h.1 rfl);have f:Mh (Ed 2)=some 0:=Pn (fs:=[X9,X9]) (k:=0) (by decide) (fun h=>h rfl) (fun j _ g=>absurd g (by omega));have i:Bc (By 700 8 2) (Ed 2)=(⟨By 700 8 2,Ed 2,0⟩,0):=by unfold Bc;rw[f]
 unfold Ao;rw[if_neg (fun c=>c ⟨Int.le_refl _,by show(0:Int)<8;decide⟩),e];simp only;rw[show D7 (By 700 8 2) 0=_ from d,if_neg (fun c=>c rfl),i,if_pos rfl]
 rfl
theorem Acb:J6 (By 700 8 2) (Ed 2) 0=(⟨By 700 8 2,[hF 0 true,X9],0⟩,Gj (0:Nat)):=by
 unfold J6;rw[yJ]
 rfl
theorem yK:Ao (By 700 8 2) [hF 0 true,X9] 1=(⟨By 700 8 2,[hF 0 true,hF 1 true],0⟩,1):=by
 have b:=Pp (N:=700) (n:=8) (k:=2) (by omega) (by omega) (by omega) (p:=1) (by omega);have c:Oz [hF 0 true,X9] 1=none:=Zl rfl (fun h=>absurd h.2 (by show ¬ (0:Int)=1;decide)) (fun h=>h.1 rfl);have d:Mh [hF 0 true,X9]=some 1:=Pn (k:=1) (by show 1<2;decide) (fun h=>h rfl) (fun j _ f=>by
  obtain rfl:j=0:=by omega
  exact fun h=>h (Qz 0 true))
 have e:Bc (By 700 8 2) [hF 0 true,X9]=(⟨By 700 8 2,[hF 0 true,X9],0⟩,1):=by unfold Bc;rw[d]
 unfold Ao;rw[if_neg (fun a=>a ⟨by decide,by show(1:Int)<8;decide⟩),c];simp only;rw[show D7 (By 700 8 2) 1=_ from b,if_neg (fun a=>a rfl),e,if_pos rfl]
 rfl
theorem Acd:J6 (By 700 8 2) [hF 0 true,X9] 1=(⟨By 700 8 2,[hF 0 true,hF 1 true],0⟩,Gj (0:Nat)):=by
 unfold J6;rw[yK]
 rfl
theorem Abj:Ao (By 700 8 2) [hF 0 true,hF 1 true] 2=(⟨{By 700 8 2 with hand:=1},[hF 2 true,hF 1 false],0⟩,0):=by
 have c:=Pp (N:=700) (n:=8) (k:=2) (by omega) (by omega) (by omega) (p:=2) (by omega);have d:Oz [hF 0 true,hF 1 true] 2=none:=Zl rfl (fun h=>absurd h.2 (by show ¬ (0:Int)=2;decide)) (fun h=>absurd h.2 (by show ¬ (1:Int)=2;decide));have e:Mh [hF 0 true,hF 1 true]=none:=Vf fun x b=>by
  simp at b
  rcases b with rfl|rfl
  ·exact fun h=>h (Qz 0 true)
  ·exact fun h=>h (Qz 1 true)
 have f:Mg 2 (2*2) ((By 700 8 2).hand.toNat%2) [hF 0 true,hF 1 true]=some (0,[hF 0 false,hF 1 false]):=rfl;have g:Bc (By 700 8 2) [hF 0 true,hF 1 true]=(⟨{By 700 8 2 with hand:=1},[hF 0 false,hF 1 false],0⟩,0):=by
  unfold Bc;rw[e];simp only[List.length_cons,List.length_nil];rw[f]
  rfl
 unfold Ao;rw[if_neg (fun a=>a ⟨by decide,by show(2:Int)<8;decide⟩),d];simp only;rw[show D7 (By 700 8 2) 2=_ from c,if_neg (fun a=>a rfl),g,if_pos rfl]
 rfl
theorem Ace:J6 (By 700 8 2) [hF 0 true,hF 1 true] 2=(⟨{By 700 8 2 with hand:=1},[hF 2 true,hF 1 false],0⟩,Gj (0:Nat)):=by
 unfold J6;rw[Abj]
 rfl
theorem iO (s:Tx.St)(p:SP)(fs:List Fr)(a:fs.length≤1000)(x:Int)(k:Int)(b:∀ y:Int,((y= -1∧∀ f∈fs,¬ (Full f∧f.Ab=x))∨∃ (i:Nat) (h:i<fs.length),y=(i:Int)∧(Full fs[i]∧fs[i].Ab=x)∧∀ j (hj:j<i),¬ (Full (fs[j]'(by omega))∧(fs[j]'(by omega)).Ab=x))→y=k)(w:World)(h:Ba w s p fs):
 Cr 19 #[Ar s p,x] w (.int .i64 k):=
 (Qp s p fs a x w h).mono fun e w' ⟨y,c,d,g⟩=>⟨by rw[c,b y d],g⟩
theorem iP (w:World):
 Cr 6 #[] w (.bool true):=by
 have a1:=Hq (fun W=>show Cr 8 #[.int .i64 1] W (.agg #[.int .i64 ((700:Nat):Int),.int .i64 ((8:Nat):Int),.int .i64 ((2:Nat):Int)]) from(Xr 1 (by omega) W).mono fun e w' ⟨k,_,C,h3,h4⟩=>by
  have hk:k=2:=by have h9:(k:Int)=2:=C;omega
  subst hk;exact⟨h3,h4⟩)
 have F:=Hq (fun W=>Vp 700 8 2 (by omega) (by omega) W);have G:=Vo (N:=700) (n:=8) (k:=2) (by omega) (by omega) (by omega);have r:=Hq (fun q W (f:Ba W (By 700 8 2) q (Ed 2))=>show Cq 27 #[Ar (By 700 8 2) q,()] W (M9 (⟨(By 700 8 2),[hF 0 true,X9],0⟩,Gj (0:Nat)) W)from by rw[← Acb];exact Mi (By 700 8 2) q (Ed 2) G (by omega) 0 W f);have j:Wf 700 8 0 (By 700 8 2) [hF 0 true,X9]:=by
  have h:=(G.held 0).1;rw[yJ]at h;exact h
 have l:=Hq (fun q W (f:Ba W (By 700 8 2) q [hF 0 true,X9])=>show Cq 27 #[Ar (By 700 8 2) q,.int .i64 1] W (M9 (⟨(By 700 8 2),[hF 0 true,hF 1 true],0⟩,Gj (0:Nat)) W)from by rw[← Acd];exact Mi (By 700 8 2) q [hF 0 true,X9] j (by omega) 1 W f);have D:Wf 700 8 0 (By 700 8 2) [hF 0 true,hF 1 true]:=by
  have h:=(j.held 1).1;rw[yK]at h;exact h
 have d:=Hq (fun q W (f:Ba W (By 700 8 2) q [hF 0 true,hF 1 true])=>show Cq 27 #[Ar (By 700 8 2) q,.int .i64 2] W (M9 (⟨{By 700 8 2 with hand:=1},[hF 2 true,hF 1 false],0⟩,Gj (0:Nat)) W)from by rw[← Ace];exact Mi (By 700 8 2) q [hF 0 true,hF 1 true] D (by omega) 2 W f);have H:=Hq (fun q W (f:Ba W {By 700 8 2 with hand:=1} q [hF 2 true,hF 1 false])=>iO {By 700 8 2 with hand:=1} q [hF 2 true,hF 1 false] (by decide) 0 (-1) (fun y hy=>by
  rcases hy with⟨h,_⟩|⟨i,hi,_,⟨_,C⟩,_⟩
  ·exact h
  ·have m:i=0∨i=1:=by have:i<2:=hi;omega
   rcases m with rfl|rfl
   ·exact absurd C (by show ¬ (2:Int)=0;decide)
   ·exact absurd C (by show ¬ (1:Int)=0;decide)) W f)
 have I:=Hq (fun q W (f:Ba W {By 700 8 2 with hand:=1} q [hF 2 true,hF 1 false])=>iO {By 700 8 2 with hand:=1} q [hF 2 true,hF 1 false] (by decide) 1 1 (fun y hy=>by
  rcases hy with⟨_,h⟩|⟨i,hi,h1,⟨_,C⟩,_⟩
  ·exact absurd ⟨Qz 1 false,rfl⟩ (h (hF 1 false) (by simp))
  ·have m:i=0∨i=1:=by have:i<2:=hi;omega
   rcases m with rfl|rfl
   ·exact absurd C (by show ¬ (2:Int)=1;decide)
   ·exact h1) W f)
 have J:=Hq (fun q W (f:Ba W {By 700 8 2 with hand:=1} q [hF 2 true,hF 1 false])=>iO {By 700 8 2 with hand:=1} q [hF 2 true,hF 1 false] (by decide) 2 0 (fun y hy=>by
  rcases hy with⟨_,h⟩|⟨i,hi,h1,⟨_,C⟩,_⟩
  ·exact absurd ⟨Qz 2 true,rfl⟩ (h (hF 2 true) (by simp))
  ·have m:i=0∨i=1:=by have:i<2:=hi;omega
   rcases m with rfl|rfl
   ·exact h1
   ·exact absurd C (by show ¬ (1:Int)=2;decide)) W f)
 have ah:=Hq (fun W=>qD 0 W);have ai:((Gj (0:Nat)).toList==(Gj 0).toList)=true:=beq_self_eq_true _;clear G j D;generalize {By 700 8 2 with hand:=1}=S3 at d H I J;generalize (By 700 8 2)=a at F r l d;generalize [hF 2 true,hF 1 false]=f3 at d H I J;generalize [hF 0 true,hF 1 true]=f2 at l d;generalize [hF 0 true,X9]=f1 at r l;go_enter Tryz.func6,Tryz.ntmps6
 go_upto_region 2 with(first
  |(go_at_call 8;refine(a1.out _).mono ?_;rintro e w1 ⟨rfl,b⟩)
  |(go_at_call 7;refine(F.out _).mono ?_;rintro e Y ⟨q,rfl,o,c⟩)
  |with_reducible refine sN (Au a q) ?_)
 have s:=Hq (heap_alloc_new Y (.cells (Au a q) 36));have K:=Hq (o.below (Ag Y (.cells (Au a q) 36)));have L:=Hq (Af b (Af c (Ag Y (.cells (Au a q) 36))));have u:=Hq (show w.heap.size≤Y.heap.size from Nat.le_trans b.size c.size);obtain⟨g,hg⟩:=ex Y.heap.size;obtain⟨u0,p⟩:=ex (Y.alloc (.cells (Au a q) 36));obtain⟨q0,M⟩:=ex q;rw[← hg,← p,← M]at s;rw[← p,← M]at K;rw[← p]at L;rw[← hg]at u;rw[← p,← hg];clear p hg M o b c F a1
 try simp only[Act.put]
 go_upto_region 3 with(first
  |with_reducible refine lL s.out Az ?_
  |(go_at_call 27;refine(r.out q0 _ K.out).mono ?_;rintro e v1 ⟨Z,rfl,a6,b⟩;have v:=Hq (Ae s.out b))
  |with_reducible refine lS (Au a Z) v.out ?_)
 have x:=Hq (setRow_heap _ _ _ (Au a Z) _ _ v.out);have O:=Hq (a6.other (t:=36) v.out (by decide) (by decide) (by decide) (Au a Z));have P:=Hq (Mf (g:=g) u.out (Af L.out b) (Au a Z));generalize v1.setRow g (Au a Z)=u1 at x O P ⊢;clear a6 b v s K L r
 try simp only[Act.put]
 go_upto_region 4 with(first
  |with_reducible refine lL x.out Az ?_
  |(go_at_call 27;refine(l.out Z _ O.out).mono ?_;rintro e v2 ⟨q2,rfl,o,c⟩;have z:=Hq (Ae x.out c))
  |with_reducible refine lS (Au a q2) z.out ?_)
 have A:=Hq (setRow_heap _ _ _ (Au a q2) _ _ z.out);have Q:=Hq (o.other (t:=36) z.out (by decide) (by decide) (by decide) (Au a q2));have R:=Hq (Mf (g:=g) u.out (Af P.out c) (Au a q2));generalize v2.setRow g (Au a q2)=u2 at A Q R ⊢;clear o c z x O P l
 try simp only[Act.put]
 go_upto_region 5 with(first
  |with_reducible refine lL A.out Az ?_
  |(go_at_call 27;refine(d.out q2 _ Q.out).mono ?_;rintro e v3 ⟨E,rfl,a7,S⟩;have B:=Hq (Ae A.out S))
  |with_reducible refine lS (Au S3 E) B.out ?_)
 have T:=Hq (setRow_heap _ _ _ (Au S3 E) _ _ B.out);have a8:=Hq (a7.other (t:=36) B.out (by decide) (by decide) (by decide) (Au S3 E));have aa:=Hq (Mf (g:=g) u.out (Af R.out S) (Au S3 E));generalize v3.setRow g (Au S3 E)=u3 at T a8 aa ⊢;clear a7 S B A Q R d
 try simp only[Act.put]
 go_wp2_with(first
  |with_reducible refine lL T.out Az ?_
  |(go_at_call 28;refine(ah.out _).mono ?_;rintro e v4 ⟨rfl,U⟩;have ad:=Hq (Ae T.out U);have ae:=Hq (a8.out.below U))
  |with_reducible refine lL ad.out Az ?_
  |(go_at_call 19;refine(H.out E _ ae.out).mono ?_;rintro e v5 ⟨rfl,V⟩;have af:=Hq (Ae ad.out V);have ag:=Hq (ae.out.below V))
  |with_reducible refine lL af.out Az ?_
  |(go_at_call 19;refine(I.out E _ ag.out).mono ?_;rintro e v6 ⟨rfl,X⟩;have aj:=Hq (Ae af.out X);have ak:=Hq (ag.out.below X))
  |with_reducible refine lL aj.out Az ?_
  |(go_at_call 19;refine(J.out E _ ak.out).mono ?_;rintro e v7 ⟨rfl,an⟩))
 go_ret;exact⟨by simp[ai],Af aa.out (Af U (Af V (Af X an)))⟩
def Rz (b:ByteArray):Nat:=Oct.Bq b.data.toList 4 6
theorem dS {p:ByteArray}(h:Bo p=true):(Ac p).lsn=Rz p:=by
 have b:=Ow h;unfold Pg.right at b;have a:=(Option.filter_eq_some_iff.1 b).1;unfold Pg.rd at a
 split at a
 ·cases a
 ·obtain⟨rs,_,c⟩:=Option.map_eq_some_iff.1 a
  rw[← c];rfl
theorem Vt {b c:ByteArray}(h:10≤b.size):Rz (b++c)=Rz b:=by
 have a:=Ke b;unfold Rz Oct.Bq;rw[ByteArray.data_append,Array.toList_append,List.drop_append_of_le_length (by omega),List.take_append_of_le_length (by rw[List.length_drop];omega)]
theorem tK (b:ByteArray):Rz (F8 b 0)=Rz b:=by
 unfold Rz Oct.Bq F8;rw[show 0*128=0 by rfl,Xf,List.drop_zero,List.drop_take,List.take_take]
 rfl
theorem oQ {p:ByteArray}(h:Bo p=true):Rz (E5 p)=(Ac p).lsn:=by
 obtain⟨a,b,_⟩:=Ig h;rw[← dS a,b]
theorem oR {M:Nat}{d:Lg.Dk}(h:Pm M d){a:Nat}(c:a+4≤M):∃ b,d.Ad[a]? =some b∧Rz (Gm d a)=Rz b:=by
 have e:=h.len;refine⟨d.Ad[a],List.getElem?_eq_getElem (by omega),?_⟩;have f:=h.sz d.Ad[a] (List.getElem_mem (by omega));have g:=h.sz d.Ad[a+1] (List.getElem_mem (by omega));have i:=h.sz d.Ad[a+2] (List.getElem_mem (by omega));rw[nF (by omega),Vt (by rw[ByteArray.size_append,ByteArray.size_append];omega),Vt (by rw[ByteArray.size_append];omega),Vt (by omega)]
theorem dT (d:Lg.Dk)(a:Int)(b:ByteArray)(j:Nat):(Lg.Cf d a b).1.Ad[j]? =d.Ad[j]?∨((j:Int)=a∧(Lg.Cf d a b).1.Ad[j]? =some b):=by
 unfold Lg.Cf
 split
 ·exact .inl rfl
 ·split
  ·exact .inl rfl
  ·rename_i f
   have e:Lg.Hi d a:=(Classical.byContradiction fun g=>f g).1
   split
   ·exact .inl rfl
   ·by_cases h:(j:Int)=a
    ·refine .inr ⟨h,?_⟩
     show(d.Ad.set a.toNat b)[j]? =_
     have c:a.toNat<d.Ad.length:=(by unfold Lg.Hi at e;omega);rw[show j=a.toNat by omega,List.getElem?_set_self c]
    ·refine .inl ?_
     show(d.Ad.set a.toNat b)[j]? =_
     have i:0≤a:=(by unfold Lg.Hi at e;omega);rw[List.getElem?_set_ne (by omega)]
theorem Zm (d:Lg.Dk)(a:Nat)(b:ByteArray)(j:Nat):∀ k,(F5 d a b k).1.Ad[j]? =d.Ad[j]?∨∃ i,i<k∧j=a+i∧(F5 d a b k).1.Ad[j]? =some (F8 b i)
 |0=>.inl rfl
 |k+1=>by
  have ih:=Zm d a b j k
  by_cases h0:(F5 d a b k).2=0
  ·rw[He h0]
   rcases dT (F5 d a b k).1 ((a:Int)+(k:Int)) (F8 b k) j with h1|⟨h1,h2⟩
   ·rw[h1]
    rcases ih with h|⟨i,hi,hj,h⟩
    ·exact .inl h
    ·exact .inr ⟨i,by omega,hj,h⟩
   ·exact .inr ⟨k,by omega,by omega,h2⟩
  ·rw[I5 h0 1]
   rcases ih with h|⟨i,hi,hj,h⟩
   ·exact .inl h
   ·exact .inr ⟨i,by omega,hj,h⟩
theorem Vu (base:Int)(all:List ByteArray)(j:Nat):∀ (i:Nat) (d:Lg.Dk),base+(i:Int)≤(j:Int)→(Lg.Ci base all i d).1.Ad[j]? =d.Ad[j]?
 |0,_,_=>rfl
 |i+1,d,h=>by
  have hw:=dT d (base+(i:Int)) (all[i]?.getD ⟨#[]⟩) j;have h1:(Lg.Cf d (base+(i:Int)) (all[i]?.getD ⟨#[]⟩)).1.Ad[j]? =d.Ad[j]? :=by
   rcases hw with h1|⟨h1,_⟩
   ·exact h1
   ·omega
  unfold Lg.Ci
  split
  ·rw[Vu base all j i _ (by omega)];exact h1
  ·exact h1
theorem Xs {N:Nat}{l:Lg.Lo}(h:Zc N l)(d:Lg.Dk)(j:Nat)(a:1+N≤j):(Lg.A4 d l).1.Ad[j]? =d.Ad[j]? :=by
 have b:=h.e0;have c:=h.ef;have e:=h.t0;have g:=h.f;have i:=h.n;have k:=Lg.Ho l.tail;have hlen:l.from_+Lg.F1 l+((Lg.F3 l).length:Int)≤(j:Int):=by
  unfold Lg.F3
  split
  ·rename_i m
   rw[List.length_append,List.length_singleton];omega
  ·unfold Lg.F1
   omega
 unfold Lg.A4
 split
 ·rfl
 ·simp only
  split<;>exact Vu _ _ _ _ _ hlen
theorem Xt (d:Lg.Dk)(l:Lg.Lo):(Lg.A4 d l).2.1.end_=l.end_∧((Lg.A4 d l).2.1.safe=l.safe∨(Lg.A4 d l).2.1.safe=l.end_)∧((Lg.A4 d l).2.2=0→(Lg.A4 d l).2.1.safe=l.end_):=by
 unfold Lg.A4
 split
 ·rename_i h;exact⟨rfl,.inl rfl,fun _=>h⟩
 ·simp only
  split
  ·exact⟨rfl,.inr rfl,fun _=>rfl⟩
  ·rename_i h;exact⟨rfl,.inl rfl,fun a=>absurd a h⟩
theorem Tv (l:Lg.Lo)(r:Rc.Rec):(Lg.Bf l r).1.safe=l.safe∧l.end_≤(Lg.Bf l r).1.end_∧((Lg.Bf l r).2.2=0→(Lg.Bf l r).2.1=l.end_+1∧(Lg.Bf l r).2.1≤(Lg.Bf l r).1.end_):=by
 have a:=Lg.Fp {r with lsn:=l.end_+1};unfold Lg.Bf;simp only
 split
 ·exact⟨rfl,Int.le_refl _,fun h=>absurd h (by show ¬ (1:Int)=0;decide)⟩
 ·split
  ·exact⟨rfl,Int.le_refl _,fun h=>absurd h (by show ¬ (18:Int)=0;decide)⟩
  ·refine⟨rfl,?_,fun _=>⟨rfl,?_⟩⟩
   ·show l.end_≤l.end_+_;omega
   ·show l.end_+1≤l.end_+_;omega
structure Ah (N n:Nat) (s:Tx.St) (fs:List Fr):Prop where
 dk:∀ p,p<n→∀ b,s.Ai.Ad[1+N+4*p]? =some b→((Rz b:Nat):Int)≤s.log.safe
 fr:∀ i (h:i<fs.length),Full fs[i]→(((Ac fs[i].bytes).lsn:Nat):Int)≤s.log.end_
theorem Ah.put {N n:Nat}{s:Tx.St}{fs:List Fr}(h:Ah N n s fs)(k:Nat){f:Fr}(c:Full f→(((Ac f.bytes).lsn:Nat):Int)≤s.log.end_):Ah N n s (fs.set k f):=⟨h.dk,fun i d a=>by
 rcases Ku fs k f i d with⟨_,e⟩|⟨_,b,e⟩
 ·rw[e]at a ⊢;exact c a
 ·rw[e]at a ⊢;exact h.fr i b a⟩
theorem Ah.same {N n:Nat}{s:Tx.St}{fs:List Fr}(h:Ah N n s fs){k:Nat}(b:k<fs.length){f:Fr}(a:f.bytes=fs[k].bytes):Ah N n s (fs.set k f):=h.put k fun c=>by
 rw[a];exact h.fr k b (by unfold Full at c ⊢;rwa[← a])
theorem Ah.marks {N n:Nat}{s:Tx.St}{fs a:List Fr}(h:Ah N n s fs)(b:V5 fs a):Ah N n s a:=⟨h.dk,fun i d c=>by
 have f:=b.len;have e:=b.at_ i (by omega) d;rw[e]at c ⊢;exact h.fr i (by omega) c⟩
theorem Ah.hand {N n:Nat}{s:Tx.St}{fs:List Fr}(h:Ah N n s fs)(x:Int):Ah N n {s with hand:=x} fs:=⟨h.dk,h.fr⟩
theorem Ah.force {N n B:Nat}{s:Tx.St}{fs:List Fr}(h:Ah N n s fs)(d:Wf N n B s fs):Ah N n {s with Ai:=(Lg.A4 s.Ai s.log).1,log:=(Lg.A4 s.Ai s.log).2.1} fs:=by
 obtain⟨e,a,_⟩:=Xt s.Ai s.log;have j:=d.lb.s1;refine⟨fun p f b c=>?_,fun i g c=>?_⟩
 ·have k:=h.dk p f b ((Xs d.low s.Ai _ (by omega)).symm.trans c)
  show _≤(Lg.A4 s.Ai s.log).2.1.safe
  rcases a with a|a<;>omega
 ·show _≤(Lg.A4 s.Ai s.log).2.1.end_
  rw[e];exact h.fr i g c
theorem Ah.flush {N n B:Nat}{s:Tx.St}{fs:List Fr}(h:Ah N n s fs)(e:Wf N n B s fs){k:Nat}(f:k<fs.length):Ah N n (Cu s fs k).s (Cu s fs k).fs∧(Cu s fs k).s.log.end_=s.log.end_:=by
 have g:=h.force e;obtain⟨j,D,v⟩:=Xt s.Ai s.log;have c:=e.fr k f;have l:=h.fr k f;unfold Cu;rw[Bh f]
 split
 ·exact⟨h,rfl⟩
 ·rename_i m
  have a:=c.rz m;have o:=c.is a;have w:=l a;have q:=c.pg;have t:=(Ol e q).2;have x:=e.zl
  split
  ·exact⟨g,j⟩
  ·rename_i y
   have z:=v (Classical.byContradiction fun A=>y A);have d:Ah N n {s with Ai:=(F5 (Lg.A4 s.Ai s.log).1 (F9 s fs[k].Ab) (E5 fs[k].bytes) 4).1,log:=(Lg.A4 s.Ai s.log).2.1} fs:=by
    refine⟨fun p C b u=>?_,g.fr⟩;rcases Zm (Lg.A4 s.Ai s.log).1 (F9 s fs[k].Ab) (E5 fs[k].bytes) (1+N+4*p) 4 with r|⟨i,E,F,r⟩
    ·exact g.dk p C b (r.symm.trans u)
    ·obtain rfl:i=0:=by omega
     obtain rfl:=Option.some.inj (r.symm.trans u)
     show((Rz (F8 (E5 fs[k].bytes) 0):Nat):Int)≤(Lg.A4 s.Ai s.log).2.1.safe
     rw[tK,oQ o,z];exact w
   split
   ·exact⟨d,j⟩
   ·exact⟨d.same f rfl,j⟩
theorem Ah.room {N n B:Nat}{s:Tx.St}{fs:List Fr}(h:Ah N n s fs)(c:Wf N n B s fs):Ah N n (Bc s fs).1.s (Bc s fs).1.fs∧(Bc s fs).1.s.log.end_=s.log.end_:=by
 have e:=c.nf;unfold Bc
 split
 ·exact⟨h,rfl⟩
 ·split
  ·exact⟨h,rfl⟩
  ·rename_i k a d
   obtain⟨f,b,_⟩:=Ii fs.length (by omega) _ _ fs fs k a rfl (Nat.mod_lt _ (by omega)) (V5.refl fs) d;have g:=b.len;have i:(k+1)%fs.length<fs.length:=Nat.mod_lt _ (by omega);exact((h.hand (((k+1)%fs.length:Nat):Int)).marks b).flush ((c.hand (x:=(((k+1)%fs.length:Nat):Int)) (by omega)).marks b) (by omega)
theorem Ah.back {N n:Nat}{s:Tx.St}{fs:List Fr}(h:Ah N n s fs){x:Px}(a:Ah N n x.s x.fs):Ah N n (Dz s fs x).s (Dz s fs x).fs:=by
 unfold Dz
 split
 ·exact a
 ·exact h
theorem tL {N n B:Nat}{s:Tx.St}{fs:List Fr}(h:Ah N n s fs)(a:Wf N n B s fs){p:Int}(f:0≤p∧p<(n:Int)):(((Ac (D7 s p).1).lsn:Nat):Int)≤s.log.safe:=by
 have g:=a.lb.s0;have d:(((Ac (⟨#[]⟩:ByteArray)).lsn:Nat):Int)≤s.log.safe:=by
  have:(Ac (⟨#[]⟩:ByteArray)).lsn=0:=by decide
  omega
 unfold D7
 split
 ·exact d
 ·split
  ·show(((Ac (Gj 0)).lsn:Nat):Int)≤_
   rw[show Gj 0=Gj ((0:Nat):Int)from rfl,(Qn 0 (by omega)).2];exact g
  ·split
   ·rename_i c
    unfold Jx at c;rw[Bool.and_eq_true]at c
    show(((Ac (Lw (Gm s.Ai (F9 s p)))).lsn:Nat):Int)≤_
    rw[(gJ c.1).2,dS c.1];obtain⟨i,l⟩:=Ol a f;have j:=a.zl;obtain⟨b,k,e⟩:=oR a.dk i;rw[e];obtain⟨q,m⟩:∃ q:Nat,p=(q:Int):=⟨p.toNat,by omega⟩;exact h.dk q (by omega) b (by rw[← k];congr 1;omega)
   ·exact d
theorem Ah.held {N n B:Nat}{s:Tx.St}{fs:List Fr}(h:Ah N n s fs)(a:Wf N n B s fs)(p:Int):Ah N n (Ao s fs p).1.s (Ao s fs p).1.fs∧((Ao s fs p).1.e=0→(Ao s fs p).1.s.log.end_=s.log.end_):=by
 have q:=a.zp;have g:=a.lb.s1;obtain⟨d,i⟩:=h.room a;unfold Ao
 split
 ·exact⟨h,fun _=>rfl⟩
 ·rename_i b
  have c:0≤p∧p<(n:Int):=by
   have b:=Classical.byContradiction fun j=>b j;unfold Im at b;omega
  have r:=tL h a c
  split
  ·rename_i k l
   obtain⟨f,_⟩:=I6 l;rw[Bh f];exact⟨h.same f rfl,fun _=>rfl⟩
  ·split
   ·exact⟨h,fun _=>rfl⟩
   ·split
    ·exact⟨d.put _ fun _=>by show(((Ac (D7 s p).1).lsn:Nat):Int)≤_;omega,fun _=>i⟩
    ·rename_i m
     refine⟨h.back d,fun o=>absurd o ?_⟩;unfold Dz;simp only
     split<;>exact m
theorem Ah.Acf {N n:Nat}{s:Tx.St}{fs:List Fr}(h:Ah N n s fs){g:Lg.Lo}(c:g.safe=s.log.safe)(d:s.log.end_≤g.end_)(e:List Rc.Cw):Ah N n {s with log:=g,txns:=e} fs:=
 ⟨fun p f b a=>by show _≤g.safe;rw[c];exact h.dk p f b a,fun i j a=>Int.le_trans (h.fr i j a) d⟩
theorem Ah.chg {N n:Nat}{s:Tx.St}{fs:List Fr}(h:Ah N n s fs){x:Px}(j:Ah N n x.s x.fs)(k i:Nat)(r:Rc.Rec){b:ByteArray}(o:Bo b=true)(e:0≤x.s.log.end_∧∀ l:Int,(Hf x.s (Cz x.fs k) r.Ab).1.end_=l→l<1000000000):Ah N n (Tc x k i s fs r b).s (Tc x k i s fs r b).fs:=by
 have c:(Hf x.s (Cz x.fs k) r.Ab).1.safe=x.s.log.safe∧x.s.log.end_≤(Hf x.s (Cz x.fs k) r.Ab).1.end_:=by
  unfold Hf
  split
  ·exact⟨(Tv _ _).1,(Tv _ _).2.1⟩
  ·exact⟨rfl,Int.le_refl _⟩
 have d:=e.2 _ rfl;have p:=e.1;unfold Tc;simp only;generalize Hf x.s (Cz x.fs k) r.Ab=m at c d ⊢
 split
 ·exact h
 ·obtain⟨f,a2,a3⟩:=Tv m.1 {r with prev:=(Lc x.s.txns i).last}
  generalize Lg.Bf m.1 {r with prev:=(Lc x.s.txns i).last}=a at f a2 a3 ⊢
  split
  ·exact h
  ·rename_i q
   obtain⟨a4,a5⟩:=a3 (Classical.byContradiction fun t=>q t);refine(j.Acf (f.trans c.1) (Int.le_trans c.2 a2) _).put k fun _=>?_
   show(((Ac (Cj b a.2.1)).lsn:Nat):Int)≤a.1.end_
   have g:=(Qm o (l:=a.2.1.toNat) (by omega)).2;rw[show((a.2.1.toNat:Nat):Int)=a.2.1 by omega]at g;rw[g]
   show((a.2.1.toNat:Nat):Int)≤_
   omega
theorem kR {N n B:Nat}{s:Tx.St}{fs:List Fr}(a:Wf N n B s fs)(f:Fr)(p:Int):Zc N (Hf s f p).1:=by
 unfold Hf
 split
 ·exact a.low.append _
 ·exact a.low
theorem Ah.change {N n B:Nat}{s:Tx.St}{fs:List Fr}(h:Ah N n s fs)(a:Wf N n B s fs)(r:Rc.Rec)(D:ByteArray→ByteArray×Int)(d:∀ q,(D q).2=0→Bo (D q).1=true):Ah N n (Dy s fs r D).s (Dy s fs r D).fs:=by
 obtain⟨b,_⟩:=h.held a r.Ab;obtain⟨c,_⟩:=a.held r.Ab;have k:=a.n1.2.2;unfold Dy
 split
 ·exact h
 ·split
  ·exact h
  ·rename_i i m
   generalize Ao s fs r.Ab=x at b c ⊢
   split
   ·exact b
   ·split
    ·exact h
    ·rename_i f
     have g:=kR c (Cz x.1.fs x.2) r.Ab;have o:=g.ef;exact h.chg b _ _ r (d _ (Classical.byContradiction fun j=>f j)) ⟨c.lb.e0,fun l e=>by omega⟩
theorem Ah.get {N n B:Nat}{s:Tx.St}{fs:List Fr}(h:Ah N n s fs)(a:Wf N n B s fs)(p:Int):Ah N n (J6 s fs p).1.s (J6 s fs p).1.fs:=by
 unfold J6;exact(h.held a p).1
theorem Ah.pin {N n B:Nat}{s:Tx.St}{fs:List Fr}(h:Ah N n s fs)(b:Wf N n B s fs)(p:Int):Ah N n (Qr s fs p).s (Qr s fs p).fs:=by
 obtain⟨a,_⟩:=h.held b p;obtain⟨_,d,e,_⟩:=b.held p;unfold Qr;generalize Ao s fs p=x at a d e ⊢
 split
 ·have c:x.2<x.1.fs.length:=by omega
  rw[Bh c];exact a.same c rfl
 ·exact a
theorem Ah.Vj {N n:Nat}{s:Tx.St}{fs:List Fr}(h:Ah N n s fs)(p:Int):Ah N n (E7 s fs p).s (E7 s fs p).fs:=by
 unfold E7
 split
 ·exact h
 ·split
  ·exact h
  ·rename_i k b
   obtain⟨a,_⟩:=I6 b;rw[Bh a]
   split
   ·exact h
   ·exact h.same a rfl
theorem Ah.Kv {N n B:Nat}{s:Tx.St}{fs:List Fr}(h:Ah N n s fs)(a:Wf N n B s fs)(p:Int):Ah N n (D4 s fs p).s (D4 s fs p).fs:=by
 unfold D4
 split
 ·exact h
 ·split
  ·exact h
  ·rename_i k b
   obtain⟨c,_⟩:=I6 b;exact h.back (h.flush a c).1
theorem Ah.Jl {N n B:Nat}{s0:Tx.St}{fs0:List Fr}(h0:Ah N n s0 fs0):∀ (l:List Int) (s:Tx.St) (fs:List Fr),Ah N n s fs→Wf N n B s fs→Ah N n (Jl s0 fs0 l s fs).s (Jl s0 fs0 l s fs).fs
 |[],_,_,h,_=>h
 |p::l,s,fs,h,hw=>by
  have h1:=h.Kv hw p;obtain⟨w1,_⟩:=hw.Kv p
  show Ah N n (if _ then _ else _:Px).s (if _ then _ else _:Px).fs
  split
  ·exact Ah.Jl h0 l _ _ h1 w1
  ·exact h0.back h1
theorem Ah.all {N n B:Nat}{s:Tx.St}{fs:List Fr}(h:Ah N n s fs)(a:Wf N n B s fs):Ah N n (Te s fs).s (Te s fs).fs:=h.Jl _ _ _ h a
noncomputable def Jm (s:Tx.St) (fs:List Fr) (a:Gq):Px×ByteArray:=
 if a.kind=8 then(⟨{s with Ai:=Lg.Nr s.Ai a.n},fs,0⟩,⟨#[]⟩)else Fu s fs a
theorem Pm.arm {M:Nat}{d:Lg.Dk}(h:Pm M d){n:Int}(a:n≤9223372036854775807):Pm M (Lg.Nr d n):=⟨h.sz,by
 show _≤(if n<0 then -1 else n)∧(if n<0 then -1 else n)≤_
 split<;>omega,h.len⟩
theorem Pm.start {M:Nat}{d:Lg.Dk}(h:Pm M d):Pm M (Lg.Bs d):=⟨h.sz,by show _≤(-1:Int)∧(-1:Int)≤_;omega,h.len⟩
theorem Ah.Ai {N n:Nat}{s:Tx.St}{fs:List Fr}(h:Ah N n s fs){d:Lg.Dk}(a:d.Ad=s.Ai.Ad):Ah N n {s with Ai:=d} fs:=⟨fun p c b e=>h.dk p c b (by rw[← a];exact e),h.fr⟩
theorem Ah.act {N n B:Nat}{s:Tx.St}{fs:List Fr}(h:Ah N n s fs)(b:Wf N n B s fs)(a:Gq)(d:a.n≤9223372036854775807):Ah N n (Jm s fs a).1.s (Jm s fs a).1.fs∧Wf N n (B+1) (Jm s fs a).1.s (Jm s fs a).1.fs:=by
 have c:=Nat.le_succ B;unfold Jm
 split
 ·exact⟨h.Ai rfl,(b.Ai (b.dk.arm d)).more c⟩
 ·unfold Fu
  split
  ·exact⟨h.get b _,by unfold J6;exact((b.held _).1).more c⟩
  ·split
   ·exact⟨h.pin b _,(b.pin _).1⟩
   ·split
    ·exact⟨h.Vj _,((b.Vj _).1).more c⟩
    ·split
     ·exact⟨h.change b _ _ (Jq a.o),((b.change _ _ (Jq a.o)).1).more c⟩
     ·split
      ·exact⟨h.Kv b _,((b.Kv _).1).more c⟩
      ·split
       ·exact⟨h.all b,b.all.1.more c⟩
       ·exact⟨h.Ai rfl,(b.Ai b.dk.start).more c⟩
theorem tM {N n k:Nat}(c:1≤n∧n≤60∧N≤3000)(d:10≤N)(e:1≤k∧k≤64):Ah N n (By N n k) (Ed k):=by
 have f:=Vo c d e;refine⟨fun p o b a=>?_,fun i g a=>?_⟩
 ·have h:(List.replicate (1+N+4*n) Lg.Cy)[1+N+4*p]? =some b:=a
  have j:b=Lg.Cy:=(List.mem_replicate.1 (List.mem_of_getElem? h)).2;have l:Rz Lg.Cy=0:=by decide
  have m:=f.lb.s0;rw[j,l];exact m
 ·rw[Full,Es g]at a;exact absurd rfl a
theorem xD (s:Tx.St)(p:SP)(fs:List Fr)(a:Gq)(v:a.kind<0∨8<a.kind)(w:World)(h:Ba w s p fs):
 Cq 9 #[Ar s p,.agg #[a.kind,a.Ab,a.n,a.o.kind,a.o.slot,a.o.A5,a.o.new,a.p.r.lsn,a.p.r.prev,a.p.r.txn,a.p.r.kind,a.p.r.Ab,a.p.r.next,a.p.r.num,a.p.r.op.kind,a.p.r.op.slot,a.p.r.op.A5,a.p.r.op.new,a.p.r.how,a.p.r.root,a.p.r.e.key,a.p.r.e.Ab,a.p.r.e.slot,.slice a.p.A a.p.r.txns.length a.p.c,.slice a.p.B a.p.r.dirty.length a.p.d]] w (M9 (Jm s fs a) w):=by
 have f:=Hq (fun W=>Rr s.Ai p.A p.c W);have g:=Hq (show Jm s fs a=(⟨{s with Ai:=Lg.Bs s.Ai},fs,0⟩,⟨#[]⟩)from by unfold Jm Fu;rw[if_neg (by omega),if_neg (by omega),if_neg (by omega),if_neg (by omega),if_neg (by omega),if_neg (by omega),if_neg (by omega)]);have m:=Hq (show Ba w {s with Ai:=Lg.Bs s.Ai} p fs from⟨⟨⟨h.st.dk.secs,h.st.dk.small⟩,h.st.dt,h.st.tx,h.st.tt⟩,h.fn,h.fr,h.ft⟩);have q:=Hq (fun w' (t:Bw w w')=>show M9 (Jm s fs a) w (.returned (.tuple #[Ar {s with Ai:=Lg.Bs s.Ai} p,"",()])) w' from by rw[g.out];exact⟨p,rfl,m.out.below t,t⟩);generalize M9 (Jm s fs a) w=Q at q ⊢;clear h g m;have x:(a.kind==0)=false:=beq_eq_false_iff_ne.2 (by omega);have y:(a.kind==1)=false:=beq_eq_false_iff_ne.2 (by omega);have z:(a.kind==2)=false:=beq_eq_false_iff_ne.2 (by omega);have C:(a.kind==3)=false:=beq_eq_false_iff_ne.2 (by omega);have D:(a.kind==4)=false:=beq_eq_false_iff_ne.2 (by omega);have E:(a.kind==5)=false:=beq_eq_false_iff_ne.2 (by omega);have F:(a.kind==6)=false:=beq_eq_false_iff_ne.2 (by omega);have G:(a.kind==7)=false:=beq_eq_false_iff_ne.2 (by omega);have H:(a.kind==8)=false:=beq_eq_false_iff_ne.2 (by omega);clear v;go_enter Tryz.func9,Tryz.ntmps9;go_upto_region 1 with fail;have b:=Ti w (Au s p) 36 #[a.kind,a.Ab,a.n,a.o.kind,a.o.slot,a.o.A5,a.o.new,a.p.r.lsn,a.p.r.prev,a.p.r.txn,a.p.r.kind,a.p.r.Ab,a.p.r.next,a.p.r.num,a.p.r.op.kind,a.p.r.op.slot,a.p.r.op.A5,a.p.r.op.new,a.p.r.how,a.p.r.root,a.p.r.e.key,a.p.r.e.Ab,a.p.r.e.slot,.slice a.p.A a.p.r.txns.length a.p.c,.slice a.p.B a.p.r.dirty.length a.p.d] 49 #[(),(),(),'s',(),false,(),(),(),(),"",'s',(),'s',()] 36;obtain⟨I,i⟩:=Gz b;rw[← i]at b ⊢;clear i;have l:=show I.cell? ⟨w.heap.size+1,0,none⟩=some (.int .i64 a.kind)from by rw[Aa b.out.As];rfl
 go_upto_region 21 with(first
  |with_reducible refine lP #[.slice p.A s.Ai.Ad.length p.c,s.Ai.left,s.Ai.down] b.out.Am Ej ?_
  |(go_at_call 10;refine(f.out _).mono ?_;rintro e u ⟨rfl,j⟩;have H1:=Hq (b.out.step j))
  |with_reducible refine lU #[.slice p.A (Lg.Bs s.Ai).Ad.length p.c,.int .i64 (Lg.Bs s.Ai).left,.bool (Lg.Bs s.Ai).down] (Au {s with Ai:=Lg.Bs s.Ai} p) H1.out.Am ?_)
 have k:=Hq (show Fc w.heap.size w [((Au {s with Ai:=Lg.Bs s.Ai} p),36),(#[a.kind,a.Ab,a.n,a.o.kind,a.o.slot,a.o.A5,a.o.new,a.p.r.lsn,a.p.r.prev,a.p.r.txn,a.p.r.kind,a.p.r.Ab,a.p.r.next,a.p.r.num,a.p.r.op.kind,a.p.r.op.slot,a.p.r.op.A5,a.p.r.op.new,a.p.r.how,a.p.r.root,a.p.r.e.key,a.p.r.e.Ab,a.p.r.e.slot,.slice a.p.A a.p.r.txns.length a.p.c,.slice a.p.B a.p.r.dirty.length a.p.d],49),(#[(),(),(),'s',(),false,(),(),(),(),"",'s',(),'s',()],36)] (u.setRow w.heap.size (Au {s with Ai:=Lg.Bs s.Ai} p))from H1.out.row 0 (Au {s with Ai:=Lg.Bs s.Ai} p) _ rfl);generalize u.setRow w.heap.size (Au {s with Ai:=Lg.Bs s.Ai} p)=w2 at k ⊢;clear j b H1 f l
 try simp only[Act.put]
 go_wp2_with(first|with_reducible refine lL k.out.Am Az ?_|with_reducible refine lS (Au {s with Ai:=Lg.Bs s.Ai} p) k.out.Cc ?_)
 refine rT3 "" () k.out.Cc Az ?_;exact q.out _ (k.out.row 2 (Au {s with Ai:=Lg.Bs s.Ai} p) _ rfl).below
theorem xE (s:Tx.St)(p:SP)(fs:List Fr)(a:Gq)(l:a.kind=8)(w:World)(h:Ba w s p fs):
 Cq 9 #[Ar s p,.agg #[a.kind,a.Ab,a.n,a.o.kind,a.o.slot,a.o.A5,a.o.new,a.p.r.lsn,a.p.r.prev,a.p.r.txn,a.p.r.kind,a.p.r.Ab,a.p.r.next,a.p.r.num,a.p.r.op.kind,a.p.r.op.slot,a.p.r.op.A5,a.p.r.op.new,a.p.r.how,a.p.r.root,a.p.r.e.key,a.p.r.e.Ab,a.p.r.e.slot,.slice a.p.A a.p.r.txns.length a.p.c,.slice a.p.B a.p.r.dirty.length a.p.d]] w (M9 (Jm s fs a) w):=by
 have f:=Hq (fun W=>uX s.Ai p.A p.c a.n W);have g:=Hq (show Jm s fs a=(⟨{s with Ai:=Lg.Nr s.Ai a.n},fs,0⟩,⟨#[]⟩)from by unfold Jm;rw[if_pos l]);have q:=Hq (show Ba w {s with Ai:=Lg.Nr s.Ai a.n} p fs from⟨⟨⟨h.st.dk.secs,h.st.dk.small⟩,h.st.dt,h.st.tx,h.st.tt⟩,h.fn,h.fr,h.ft⟩);have t:=Hq (fun w' (u:Bw w w')=>show M9 (Jm s fs a) w (.returned (.tuple #[Ar {s with Ai:=Lg.Nr s.Ai a.n} p,"",()])) w' from by rw[g.out];exact⟨p,rfl,q.out.below u,u⟩);generalize M9 (Jm s fs a) w=Q at t ⊢;clear h g q;have y:=Hq l;clear l;go_enter Tryz.func9,Tryz.ntmps9;go_upto_region 1 with fail;have b:=Ti w (Au s p) 36 #[a.kind,a.Ab,a.n,a.o.kind,a.o.slot,a.o.A5,a.o.new,a.p.r.lsn,a.p.r.prev,a.p.r.txn,a.p.r.kind,a.p.r.Ab,a.p.r.next,a.p.r.num,a.p.r.op.kind,a.p.r.op.slot,a.p.r.op.A5,a.p.r.op.new,a.p.r.how,a.p.r.root,a.p.r.e.key,a.p.r.e.Ab,a.p.r.e.slot,.slice a.p.A a.p.r.txns.length a.p.c,.slice a.p.B a.p.r.dirty.length a.p.d] 49 #[(),(),(),'s',(),false,(),(),(),(),"",'s',(),'s',()] 36;obtain⟨v,i⟩:=Gz b;rw[← i]at b ⊢;clear i;have m:=show v.cell? ⟨w.heap.size+1,0,none⟩=some (.int .i64 8)from by rw[Aa b.out.As,← y.out];rfl
 have z:=show v.cell? ⟨w.heap.size+1,2,none⟩=some (.int .i64 a.n)from by rw[Aa b.out.As];rfl
 go_upto_region 21 with(first
  |with_reducible refine lP #[.slice p.A s.Ai.Ad.length p.c,s.Ai.left,s.Ai.down] b.out.Am Ej ?_
  |(go_at_call 38;refine(f.out _).mono ?_;rintro e x ⟨rfl,j⟩;have H1:=Hq (b.out.step j))
  |with_reducible refine lU #[.slice p.A (Lg.Nr s.Ai a.n).Ad.length p.c,.int .i64 (Lg.Nr s.Ai a.n).left,.bool (Lg.Nr s.Ai a.n).down] (Au {s with Ai:=Lg.Nr s.Ai a.n} p) H1.out.Am ?_)
 have k:=Hq (show Fc w.heap.size w [((Au {s with Ai:=Lg.Nr s.Ai a.n} p),36),(#[a.kind,a.Ab,a.n,a.o.kind,a.o.slot,a.o.A5,a.o.new,a.p.r.lsn,a.p.r.prev,a.p.r.txn,a.p.r.kind,a.p.r.Ab,a.p.r.next,a.p.r.num,a.p.r.op.kind,a.p.r.op.slot,a.p.r.op.A5,a.p.r.op.new,a.p.r.how,a.p.r.root,a.p.r.e.key,a.p.r.e.Ab,a.p.r.e.slot,.slice a.p.A a.p.r.txns.length a.p.c,.slice a.p.B a.p.r.dirty.length a.p.d],49),(#[(),(),(),'s',(),false,(),(),(),(),"",'s',(),'s',()],36)] (x.setRow w.heap.size (Au {s with Ai:=Lg.Nr s.Ai a.n} p))from H1.out.row 0 (Au {s with Ai:=Lg.Nr s.Ai a.n} p) _ rfl);generalize x.setRow w.heap.size (Au {s with Ai:=Lg.Nr s.Ai a.n} p)=w2 at k ⊢;clear j b H1 f m
 try simp only[Act.put]
 go_wp2_with(first|with_reducible refine lL k.out.Am Az ?_|with_reducible refine lS (Au {s with Ai:=Lg.Nr s.Ai a.n} p) k.out.Cc ?_)
 refine rT3 "" () k.out.Cc Az ?_;exact t.out _ (k.out.row 2 (Au {s with Ai:=Lg.Nr s.Ai a.n} p) _ rfl).below
theorem iQ {N n B:Nat}(s:Tx.St)(p:SP)(fs:List Fr)(f:Wf N n B s fs)(g:B≤1000000)(a:Gq)(l:a.kind≠7)(i:a.o.new.size≤140737488355328)(w:World)(j:I8 w)(h:Ba w s p fs):
 Cq 9 #[Ar s p,.agg #[a.kind,a.Ab,a.n,a.o.kind,a.o.slot,a.o.A5,a.o.new,a.p.r.lsn,a.p.r.prev,a.p.r.txn,a.p.r.kind,a.p.r.Ab,a.p.r.next,a.p.r.num,a.p.r.op.kind,a.p.r.op.slot,a.p.r.op.A5,a.p.r.op.new,a.p.r.how,a.p.r.root,a.p.r.e.key,a.p.r.e.Ab,a.p.r.e.slot,.slice a.p.A a.p.r.txns.length a.p.c,.slice a.p.B a.p.r.dirty.length a.p.d]] w (M9 (Jm s fs a) w):=by
 by_cases b:a.kind=8
 ·exact xE s p fs a b w h
 ·by_cases k:a.kind<7
  ·have e:Jm s fs a=Fu s fs a:=by unfold Jm;rw[if_neg b]
   rw[e];exact oP s p fs f g a k i w j h
  ·exact xD s p fs a (.inr (by omega)) w h
end Go.Proofs.YtdfkambdagoojaaGreatDoor
