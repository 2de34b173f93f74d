import Derived.Test.YtmfkhdhnbkambaaGreatDoorHp00
import Derived.Test.YtmfkhdhnbkambaaGreatDoorHp30
set_option maxRecDepth 100000
set_option maxHeartbeats 16000000
set_option linter.unusedSimpArgs false
namespace Go.Proofs.YtmfkhdhnbkambaaGreatDoor
open Go.RowKit Sc
theorem lmine_0 {N n B:Nat}(s:Tx.St)(p:SP)(fs:List Fr)(hW:Wf N n B s fs)(hB:B≤1000000)(a:PkAct)(hk:a.kind=0)(w:World)(h:PoolR w s p fs):
 Calls Tryz.prog 10 #[storeV s p,.agg #[a.kind,a.page,a.n,a.o.kind,a.o.slot,a.o.old,a.o.new,a.p.r.lsn,a.p.r.prev,a.p.r.txn,a.p.r.kind,a.p.r.page,a.p.r.next,a.p.r.num,a.p.r.op.kind,a.p.r.op.slot,a.p.r.op.old,a.p.r.op.new,a.p.r.how,a.p.r.root,a.p.r.e.key,a.p.r.e.page,a.p.r.e.slot,.slice a.p.A a.p.r.txns.length a.p.c,.slice a.p.B a.p.r.dirty.length a.p.d]] w (GtR (actF s fs a) w):=by
 have HCA:=Hq (fun W (hb:Below w.heap.size w W)=>pfget_any s p fs hW hB a.page W (h.below hb))
 have HAF:=Hq (show actF s fs a=getF s fs a.page from by unfold actF;rw[if_pos hk])
 generalize getF s fs a.page=X at HCA HAF
 have HQ:=Hq (fun w' (q:SP) (hp:PoolR w' X.1.s q X.1.fs) (hb:Below w.heap.size w w')=>show GtR (actF s fs a) w (.returned (.tuple #[storeV X.1.s q,X.2,X.1.e])) w' from by rw[HAF.out];exact⟨q,rfl,hp,hb⟩)
 generalize GtR (actF s fs a) w=Q at HQ ⊢
 clear h hW HAF
 have HK:=Hq hk
 clear hk
 go_enter Tryz.func10,Tryz.ntmps10
 go_upto_region 1 with fail
 have H0:=nW3 w (stA s p) 36 #[a.kind,a.page,a.n,a.o.kind,a.o.slot,a.o.old,a.o.new,a.p.r.lsn,a.p.r.prev,a.p.r.txn,a.p.r.kind,a.p.r.page,a.p.r.next,a.p.r.num,a.p.r.op.kind,a.p.r.op.slot,a.p.r.op.old,a.p.r.op.new,a.p.r.how,a.p.r.root,a.p.r.e.key,a.p.r.e.page,a.p.r.e.slot,.slice a.p.A a.p.r.txns.length a.p.c,.slice a.p.B a.p.r.dirty.length a.p.d] 51 #[(),(),(),"s",(),false,(),(),(),(),"","s",(),"s",()] 36
 obtain⟨W0,hW0⟩:=exW H0
 rw[← hW0]at H0 ⊢
 clear hW0
 have hc0:=show W0.cell? ⟨w.heap.size+1,0,none⟩=some (.int .i64 0)from by rw[blkCell H0.out.get1,← HK.out];rfl
 have hc1:=show W0.cell? ⟨w.heap.size+1,1,none⟩=some (.int .i64 a.page)from by rw[blkCell H0.out.get1];rfl
 go_upto_region 21 with(first
  |(with_reducible refine lL H0.out.get0 Tryz.underlying36 ?_)
  |(go_at_call 13;(refine(HCA.out _ H0.out.below).mono ?_);rintro e w1 ⟨q,rfl,hp1,hb1⟩;have H1:=Hq (H0.out.step hb1))
  |(with_reducible refine lS (stA X.1.s q) H1.out.get0 ?_))
 have H2:=Hq (show BxL w.heap.size w [((stA X.1.s q),36),(#[a.kind,a.page,a.n,a.o.kind,a.o.slot,a.o.old,a.o.new,a.p.r.lsn,a.p.r.prev,a.p.r.txn,a.p.r.kind,a.p.r.page,a.p.r.next,a.p.r.num,a.p.r.op.kind,a.p.r.op.slot,a.p.r.op.old,a.p.r.op.new,a.p.r.how,a.p.r.root,a.p.r.e.key,a.p.r.e.page,a.p.r.e.slot,.slice a.p.A a.p.r.txns.length a.p.c,.slice a.p.B a.p.r.dirty.length a.p.d],51),(#[(),(),(),"s",(),false,(),(),(),(),"","s",(),"s",()],36)] (w1.setRow w.heap.size (stA X.1.s q))from H1.out.row 0 (stA X.1.s q) _ rfl)
 have HP2:=Hq (hp1.other (t:=36) H1.out.get0 (by decide) (by decide) (by decide) (stA X.1.s q))
 generalize w1.setRow w.heap.size (stA X.1.s q)=w2 at H2 HP2 ⊢
 clear hb1 hp1 H0 H1 HCA hc0 hc1
 try simp only[Act.put]
 go_wp2_with (first|(with_reducible refine lL H2.out.get0 Tryz.underlying36 ?_)|(with_reducible refine lS (stA X.1.s q) H2.out.get2 ?_))
 refine bodyPost_ret (v:=.tuple #[.agg (stA X.1.s q),X.2,X.1.e]) (results_cell3 rfl _ _ rfl (load_whole (setRow_heap _ _ _ _ _ _ H2.out.get2) Tryz.underlying36 Kr Kr) rfl rfl) rfl ?_
 exact HQ.out _ q (HP2.out.other (t:=36) H2.out.get2 (by decide) (by decide) (by decide) _) (H2.out.row 2 (stA X.1.s q) _ rfl).below
theorem lmine_1 {N n B:Nat}(s:Tx.St)(p:SP)(fs:List Fr)(hW:Wf N n B s fs)(hB:B≤1000000)(a:PkAct)(hk:a.kind=1)(w:World)(h:PoolR w s p fs):
 Calls Tryz.prog 10 #[storeV s p,.agg #[a.kind,a.page,a.n,a.o.kind,a.o.slot,a.o.old,a.o.new,a.p.r.lsn,a.p.r.prev,a.p.r.txn,a.p.r.kind,a.p.r.page,a.p.r.next,a.p.r.num,a.p.r.op.kind,a.p.r.op.slot,a.p.r.op.old,a.p.r.op.new,a.p.r.how,a.p.r.root,a.p.r.e.key,a.p.r.e.page,a.p.r.e.slot,.slice a.p.A a.p.r.txns.length a.p.c,.slice a.p.B a.p.r.dirty.length a.p.d]] w (GtR (actF s fs a) w):=by
 have HCA:=Hq (fun W (hb:Below w.heap.size w W)=>pfpin_any s p fs hW hB a.page W (h.below hb))
 have HAF:=Hq (show actF s fs a=(pinF s fs a.page,⟨#[]⟩)from by unfold actF;rw[if_neg (by rw[hk];decide)];rw[if_pos hk])
 generalize pinF s fs a.page=X at HCA HAF
 have HQ:=Hq (fun w' (q:SP) (hp:PoolR w' X.s q X.fs) (hb:Below w.heap.size w w')=>show GtR (actF s fs a) w (.returned (.tuple #[storeV X.s q,"",X.e])) w' from by rw[HAF.out];exact⟨q,rfl,hp,hb⟩)
 generalize GtR (actF s fs a) w=Q at HQ ⊢
 clear h hW HAF
 have HK:=Hq hk
 clear hk
 go_enter Tryz.func10,Tryz.ntmps10
 go_upto_region 1 with fail
 have H0:=nW3 w (stA s p) 36 #[a.kind,a.page,a.n,a.o.kind,a.o.slot,a.o.old,a.o.new,a.p.r.lsn,a.p.r.prev,a.p.r.txn,a.p.r.kind,a.p.r.page,a.p.r.next,a.p.r.num,a.p.r.op.kind,a.p.r.op.slot,a.p.r.op.old,a.p.r.op.new,a.p.r.how,a.p.r.root,a.p.r.e.key,a.p.r.e.page,a.p.r.e.slot,.slice a.p.A a.p.r.txns.length a.p.c,.slice a.p.B a.p.r.dirty.length a.p.d] 51 #[(),(),(),"s",(),false,(),(),(),(),"","s",(),"s",()] 36
 obtain⟨W0,hW0⟩:=exW H0
 rw[← hW0]at H0 ⊢
 clear hW0
 have hc0:=show W0.cell? ⟨w.heap.size+1,0,none⟩=some (.int .i64 1)from by rw[blkCell H0.out.get1,← HK.out];rfl
 have hc1:=show W0.cell? ⟨w.heap.size+1,1,none⟩=some (.int .i64 a.page)from by rw[blkCell H0.out.get1];rfl
 go_upto_region 21 with(first
  |(with_reducible refine lL H0.out.get0 Tryz.underlying36 ?_)
  |(go_at_call 32;(refine(HCA.out _ H0.out.below).mono ?_);rintro e w1 ⟨q,rfl,hp1,hb1⟩;have H1:=Hq (H0.out.step hb1))
  |(with_reducible refine lS (stA X.s q) H1.out.get0 ?_))
 have H2:=Hq (show BxL w.heap.size w [((stA X.s q),36),(#[a.kind,a.page,a.n,a.o.kind,a.o.slot,a.o.old,a.o.new,a.p.r.lsn,a.p.r.prev,a.p.r.txn,a.p.r.kind,a.p.r.page,a.p.r.next,a.p.r.num,a.p.r.op.kind,a.p.r.op.slot,a.p.r.op.old,a.p.r.op.new,a.p.r.how,a.p.r.root,a.p.r.e.key,a.p.r.e.page,a.p.r.e.slot,.slice a.p.A a.p.r.txns.length a.p.c,.slice a.p.B a.p.r.dirty.length a.p.d],51),(#[(),(),(),"s",(),false,(),(),(),(),"","s",(),"s",()],36)] (w1.setRow w.heap.size (stA X.s q))from H1.out.row 0 (stA X.s q) _ rfl)
 have HP2:=Hq (hp1.other (t:=36) H1.out.get0 (by decide) (by decide) (by decide) (stA X.s q))
 generalize w1.setRow w.heap.size (stA X.s q)=w2 at H2 HP2 ⊢
 clear hb1 hp1 H0 H1 HCA hc0 hc1
 try simp only[Act.put]
 go_wp2_with (first|(with_reducible refine lL H2.out.get0 Tryz.underlying36 ?_)|(with_reducible refine lS (stA X.s q) H2.out.get2 ?_))
 refine bodyPost_ret (v:=.tuple #[.agg (stA X.s q),"",X.e]) (results_cell3 rfl _ _ rfl (load_whole (setRow_heap _ _ _ _ _ _ H2.out.get2) Tryz.underlying36 Kr Kr) rfl rfl) rfl ?_
 exact HQ.out _ q (HP2.out.other (t:=36) H2.out.get2 (by decide) (by decide) (by decide) _) (H2.out.row 2 (stA X.s q) _ rfl).below
theorem lmine_2 {N n B:Nat}(s:Tx.St)(p:SP)(fs:List Fr)(hW:Wf N n B s fs)(hB:B≤1000000)(a:PkAct)(hk:a.kind=2)(w:World)(h:PoolR w s p fs):
 Calls Tryz.prog 10 #[storeV s p,.agg #[a.kind,a.page,a.n,a.o.kind,a.o.slot,a.o.old,a.o.new,a.p.r.lsn,a.p.r.prev,a.p.r.txn,a.p.r.kind,a.p.r.page,a.p.r.next,a.p.r.num,a.p.r.op.kind,a.p.r.op.slot,a.p.r.op.old,a.p.r.op.new,a.p.r.how,a.p.r.root,a.p.r.e.key,a.p.r.e.page,a.p.r.e.slot,.slice a.p.A a.p.r.txns.length a.p.c,.slice a.p.B a.p.r.dirty.length a.p.d]] w (GtR (actF s fs a) w):=by
 have HCA:=Hq (fun W (hb:Below w.heap.size w W)=>pfunpin_any s p fs hW hB a.page W (h.below hb))
 have HAF:=Hq (show actF s fs a=(unpinF s fs a.page,⟨#[]⟩)from by unfold actF;rw[if_neg (by rw[hk];decide)];rw[if_neg (by rw[hk];decide)];rw[if_pos hk])
 generalize unpinF s fs a.page=X at HCA HAF
 have HQ:=Hq (fun w' (q:SP) (hp:PoolR w' X.s q X.fs) (hb:Below w.heap.size w w')=>show GtR (actF s fs a) w (.returned (.tuple #[storeV X.s q,"",X.e])) w' from by rw[HAF.out];exact⟨q,rfl,hp,hb⟩)
 generalize GtR (actF s fs a) w=Q at HQ ⊢
 clear h hW HAF
 have HK:=Hq hk
 clear hk
 go_enter Tryz.func10,Tryz.ntmps10
 go_upto_region 1 with fail
 have H0:=nW3 w (stA s p) 36 #[a.kind,a.page,a.n,a.o.kind,a.o.slot,a.o.old,a.o.new,a.p.r.lsn,a.p.r.prev,a.p.r.txn,a.p.r.kind,a.p.r.page,a.p.r.next,a.p.r.num,a.p.r.op.kind,a.p.r.op.slot,a.p.r.op.old,a.p.r.op.new,a.p.r.how,a.p.r.root,a.p.r.e.key,a.p.r.e.page,a.p.r.e.slot,.slice a.p.A a.p.r.txns.length a.p.c,.slice a.p.B a.p.r.dirty.length a.p.d] 51 #[(),(),(),"s",(),false,(),(),(),(),"","s",(),"s",()] 36
 obtain⟨W0,hW0⟩:=exW H0
 rw[← hW0]at H0 ⊢
 clear hW0
 have hc0:=show W0.cell? ⟨w.heap.size+1,0,none⟩=some (.int .i64 2)from by rw[blkCell H0.out.get1,← HK.out];rfl
 have hc1:=show W0.cell? ⟨w.heap.size+1,1,none⟩=some (.int .i64 a.page)from by rw[blkCell H0.out.get1];rfl
 go_upto_region 21 with(first
  |(with_reducible refine lL H0.out.get0 Tryz.underlying36 ?_)
  |(go_at_call 33;(refine(HCA.out _ H0.out.below).mono ?_);rintro e w1 ⟨q,rfl,hp1,hb1⟩;have H1:=Hq (H0.out.step hb1))
  |(with_reducible refine lS (stA X.s q) H1.out.get0 ?_))
 have H2:=Hq (show BxL w.heap.size w [((stA X.s q),36),(#[a.kind,a.page,a.n,a.o.kind,a.o.slot,a.o.old,a.o.new,a.p.r.lsn,a.p.r.prev,a.p.r.txn,a.p.r.kind,a.p.r.page,a.p.r.next,a.p.r.num,a.p.r.op.kind,a.p.r.op.slot,a.p.r.op.old,a.p.r.op.new,a.p.r.how,a.p.r.root,a.p.r.e.key,a.p.r.e.page,a.p.r.e.slot,.slice a.p.A a.p.r.txns.length a.p.c,.slice a.p.B a.p.r.dirty.length a.p.d],51),(#[(),(),(),"s",(),false,(),(),(),(),"","s",(),"s",()],36)] (w1.setRow w.heap.size (stA X.s q))from H1.out.row 0 (stA X.s q) _ rfl)
 have HP2:=Hq (hp1.other (t:=36) H1.out.get0 (by decide) (by decide) (by decide) (stA X.s q))
 generalize w1.setRow w.heap.size (stA X.s q)=w2 at H2 HP2 ⊢
 clear hb1 hp1 H0 H1 HCA hc0 hc1
 try simp only[Act.put]
 go_wp2_with (first|(with_reducible refine lL H2.out.get0 Tryz.underlying36 ?_)|(with_reducible refine lS (stA X.s q) H2.out.get2 ?_))
 refine bodyPost_ret (v:=.tuple #[.agg (stA X.s q),"",X.e]) (results_cell3 rfl _ _ rfl (load_whole (setRow_heap _ _ _ _ _ _ H2.out.get2) Tryz.underlying36 Kr Kr) rfl rfl) rfl ?_
 exact HQ.out _ q (HP2.out.other (t:=36) H2.out.get2 (by decide) (by decide) (by decide) _) (H2.out.row 2 (stA X.s q) _ rfl).below
theorem lmine_5 {N n B:Nat}(s:Tx.St)(p:SP)(fs:List Fr)(hW:Wf N n B s fs)(_hB:B≤1000000)(a:PkAct)(hk:a.kind=5)(w:World)(h:PoolR w s p fs):
 Calls Tryz.prog 10 #[storeV s p,.agg #[a.kind,a.page,a.n,a.o.kind,a.o.slot,a.o.old,a.o.new,a.p.r.lsn,a.p.r.prev,a.p.r.txn,a.p.r.kind,a.p.r.page,a.p.r.next,a.p.r.num,a.p.r.op.kind,a.p.r.op.slot,a.p.r.op.old,a.p.r.op.new,a.p.r.how,a.p.r.root,a.p.r.e.key,a.p.r.e.page,a.p.r.e.slot,.slice a.p.A a.p.r.txns.length a.p.c,.slice a.p.B a.p.r.dirty.length a.p.d]] w (GtR (actF s fs a) w):=by
 have HCA:=Hq (fun W (hb:Below w.heap.size w W)=>pfFlush_any s p fs hW a.page W (h.below hb))
 have HAF:=Hq (show actF s fs a=(FlushF s fs a.page,⟨#[]⟩)from by unfold actF;rw[if_neg (by rw[hk];decide)];rw[if_neg (by rw[hk];decide)];rw[if_neg (by rw[hk];decide)];rw[if_neg (by rw[hk];decide)];rw[if_pos hk])
 generalize FlushF s fs a.page=X at HCA HAF
 have HQ:=Hq (fun w' (q:SP) (hp:PoolR w' X.s q X.fs) (hb:Below w.heap.size w w')=>show GtR (actF s fs a) w (.returned (.tuple #[storeV X.s q,"",X.e])) w' from by rw[HAF.out];exact⟨q,rfl,hp,hb⟩)
 generalize GtR (actF s fs a) w=Q at HQ ⊢
 clear h hW HAF
 have HK:=Hq hk
 clear hk
 go_enter Tryz.func10,Tryz.ntmps10
 go_upto_region 1 with fail
 have H0:=nW3 w (stA s p) 36 #[a.kind,a.page,a.n,a.o.kind,a.o.slot,a.o.old,a.o.new,a.p.r.lsn,a.p.r.prev,a.p.r.txn,a.p.r.kind,a.p.r.page,a.p.r.next,a.p.r.num,a.p.r.op.kind,a.p.r.op.slot,a.p.r.op.old,a.p.r.op.new,a.p.r.how,a.p.r.root,a.p.r.e.key,a.p.r.e.page,a.p.r.e.slot,.slice a.p.A a.p.r.txns.length a.p.c,.slice a.p.B a.p.r.dirty.length a.p.d] 51 #[(),(),(),"s",(),false,(),(),(),(),"","s",(),"s",()] 36
 obtain⟨W0,hW0⟩:=exW H0
 rw[← hW0]at H0 ⊢
 clear hW0
 have hc0:=show W0.cell? ⟨w.heap.size+1,0,none⟩=some (.int .i64 5)from by rw[blkCell H0.out.get1,← HK.out];rfl
 have hc1:=show W0.cell? ⟨w.heap.size+1,1,none⟩=some (.int .i64 a.page)from by rw[blkCell H0.out.get1];rfl
 go_upto_region 21 with(first
  |(with_reducible refine lL H0.out.get0 Tryz.underlying36 ?_)
  |(go_at_call 36;(refine(HCA.out _ H0.out.below).mono ?_);rintro e w1 ⟨q,rfl,hp1,hb1⟩;have H1:=Hq (H0.out.step hb1))
  |(with_reducible refine lS (stA X.s q) H1.out.get0 ?_))
 have H2:=Hq (show BxL w.heap.size w [((stA X.s q),36),(#[a.kind,a.page,a.n,a.o.kind,a.o.slot,a.o.old,a.o.new,a.p.r.lsn,a.p.r.prev,a.p.r.txn,a.p.r.kind,a.p.r.page,a.p.r.next,a.p.r.num,a.p.r.op.kind,a.p.r.op.slot,a.p.r.op.old,a.p.r.op.new,a.p.r.how,a.p.r.root,a.p.r.e.key,a.p.r.e.page,a.p.r.e.slot,.slice a.p.A a.p.r.txns.length a.p.c,.slice a.p.B a.p.r.dirty.length a.p.d],51),(#[(),(),(),"s",(),false,(),(),(),(),"","s",(),"s",()],36)] (w1.setRow w.heap.size (stA X.s q))from H1.out.row 0 (stA X.s q) _ rfl)
 have HP2:=Hq (hp1.other (t:=36) H1.out.get0 (by decide) (by decide) (by decide) (stA X.s q))
 generalize w1.setRow w.heap.size (stA X.s q)=w2 at H2 HP2 ⊢
 clear hb1 hp1 H0 H1 HCA hc0 hc1
 try simp only[Act.put]
 go_wp2_with (first|(with_reducible refine lL H2.out.get0 Tryz.underlying36 ?_)|(with_reducible refine lS (stA X.s q) H2.out.get2 ?_))
 refine bodyPost_ret (v:=.tuple #[.agg (stA X.s q),"",X.e]) (results_cell3 rfl _ _ rfl (load_whole (setRow_heap _ _ _ _ _ _ H2.out.get2) Tryz.underlying36 Kr Kr) rfl rfl) rfl ?_
 exact HQ.out _ q (HP2.out.other (t:=36) H2.out.get2 (by decide) (by decide) (by decide) _) (H2.out.row 2 (stA X.s q) _ rfl).below
theorem lmine_6 {N n B:Nat}(s:Tx.St)(p:SP)(fs:List Fr)(hW:Wf N n B s fs)(_hB:B≤1000000)(a:PkAct)(hk:a.kind=6)(w:World)(h:PoolR w s p fs):
 Calls Tryz.prog 10 #[storeV s p,.agg #[a.kind,a.page,a.n,a.o.kind,a.o.slot,a.o.old,a.o.new,a.p.r.lsn,a.p.r.prev,a.p.r.txn,a.p.r.kind,a.p.r.page,a.p.r.next,a.p.r.num,a.p.r.op.kind,a.p.r.op.slot,a.p.r.op.old,a.p.r.op.new,a.p.r.how,a.p.r.root,a.p.r.e.key,a.p.r.e.page,a.p.r.e.slot,.slice a.p.A a.p.r.txns.length a.p.c,.slice a.p.B a.p.r.dirty.length a.p.d]] w (GtR (actF s fs a) w):=by
 have HCA:=Hq (fun W (hb:Below w.heap.size w W)=>pfAll_any s p fs hW W (h.below hb))
 have HAF:=Hq (show actF s fs a=(allF s fs,⟨#[]⟩)from by unfold actF;rw[if_neg (by rw[hk];decide)];rw[if_neg (by rw[hk];decide)];rw[if_neg (by rw[hk];decide)];rw[if_neg (by rw[hk];decide)];rw[if_neg (by rw[hk];decide)];rw[if_pos hk])
 generalize allF s fs=X at HCA HAF
 have HQ:=Hq (fun w' (q:SP) (hp:PoolR w' X.s q X.fs) (hb:Below w.heap.size w w')=>show GtR (actF s fs a) w (.returned (.tuple #[storeV X.s q,"",X.e])) w' from by rw[HAF.out];exact⟨q,rfl,hp,hb⟩)
 generalize GtR (actF s fs a) w=Q at HQ ⊢
 clear h hW HAF
 have HK:=Hq hk
 clear hk
 go_enter Tryz.func10,Tryz.ntmps10
 go_upto_region 1 with fail
 have H0:=nW3 w (stA s p) 36 #[a.kind,a.page,a.n,a.o.kind,a.o.slot,a.o.old,a.o.new,a.p.r.lsn,a.p.r.prev,a.p.r.txn,a.p.r.kind,a.p.r.page,a.p.r.next,a.p.r.num,a.p.r.op.kind,a.p.r.op.slot,a.p.r.op.old,a.p.r.op.new,a.p.r.how,a.p.r.root,a.p.r.e.key,a.p.r.e.page,a.p.r.e.slot,.slice a.p.A a.p.r.txns.length a.p.c,.slice a.p.B a.p.r.dirty.length a.p.d] 51 #[(),(),(),"s",(),false,(),(),(),(),"","s",(),"s",()] 36
 obtain⟨W0,hW0⟩:=exW H0
 rw[← hW0]at H0 ⊢
 clear hW0
 have hc0:=show W0.cell? ⟨w.heap.size+1,0,none⟩=some (.int .i64 6)from by rw[blkCell H0.out.get1,← HK.out];rfl
 have hc1:=show W0.cell? ⟨w.heap.size+1,1,none⟩=some (.int .i64 a.page)from by rw[blkCell H0.out.get1];rfl
 go_upto_region 21 with(first
  |(with_reducible refine lL H0.out.get0 Tryz.underlying36 ?_)
  |(go_at_call 37;(refine(HCA.out _ H0.out.below).mono ?_);rintro e w1 ⟨q,rfl,hp1,hb1⟩;have H1:=Hq (H0.out.step hb1))
  |(with_reducible refine lS (stA X.s q) H1.out.get0 ?_))
 have H2:=Hq (show BxL w.heap.size w [((stA X.s q),36),(#[a.kind,a.page,a.n,a.o.kind,a.o.slot,a.o.old,a.o.new,a.p.r.lsn,a.p.r.prev,a.p.r.txn,a.p.r.kind,a.p.r.page,a.p.r.next,a.p.r.num,a.p.r.op.kind,a.p.r.op.slot,a.p.r.op.old,a.p.r.op.new,a.p.r.how,a.p.r.root,a.p.r.e.key,a.p.r.e.page,a.p.r.e.slot,.slice a.p.A a.p.r.txns.length a.p.c,.slice a.p.B a.p.r.dirty.length a.p.d],51),(#[(),(),(),"s",(),false,(),(),(),(),"","s",(),"s",()],36)] (w1.setRow w.heap.size (stA X.s q))from H1.out.row 0 (stA X.s q) _ rfl)
 have HP2:=Hq (hp1.other (t:=36) H1.out.get0 (by decide) (by decide) (by decide) (stA X.s q))
 generalize w1.setRow w.heap.size (stA X.s q)=w2 at H2 HP2 ⊢
 clear hb1 hp1 H0 H1 HCA hc0 hc1
 try simp only[Act.put]
 go_wp2_with (first|(with_reducible refine lL H2.out.get0 Tryz.underlying36 ?_)|(with_reducible refine lS (stA X.s q) H2.out.get2 ?_))
 refine bodyPost_ret (v:=.tuple #[.agg (stA X.s q),"",X.e]) (results_cell3 rfl _ _ rfl (load_whole (setRow_heap _ _ _ _ _ _ H2.out.get2) Tryz.underlying36 Kr Kr) rfl rfl) rfl ?_
 exact HQ.out _ q (HP2.out.other (t:=36) H2.out.get2 (by decide) (by decide) (by decide) _) (H2.out.row 2 (stA X.s q) _ rfl).below
theorem lmine_3 {N n B:Nat}(s:Tx.St)(p:SP)(fs:List Fr)(hW:Wf N n B s fs)(hB:B≤1000000)(a:PkAct)(hk:a.kind=3∨a.kind=4)(hz:a.o.new.size≤140737488355328)(w:World)(hv:Vars w)(h:PoolR w s p fs):
 Calls Tryz.prog 10 #[storeV s p,.agg #[a.kind,a.page,a.n,a.o.kind,a.o.slot,a.o.old,a.o.new,a.p.r.lsn,a.p.r.prev,a.p.r.txn,a.p.r.kind,a.p.r.page,a.p.r.next,a.p.r.num,a.p.r.op.kind,a.p.r.op.slot,a.p.r.op.old,a.p.r.op.new,a.p.r.how,a.p.r.root,a.p.r.e.key,a.p.r.e.page,a.p.r.e.slot,.slice a.p.A a.p.r.txns.length a.p.c,.slice a.p.B a.p.r.dirty.length a.p.d]] w (GtR (actF s fs a) w):=by
 have HRE:=Hq (fun W=>lrec_any a W)
 have HCH:=Hq (fun W (hb:Below w.heap.size w W)=>show Calls Tryz.prog 34 #[storeV s p,.agg (recA (recOf a) (.slice none 0 0) (.slice none 0 0))] W (StOut (changeF s fs (recOf a) (doD a.o)) W)from by
  unfold recOf
  split
  ·exact pfchange_any s p fs hW hB 1 3 a.page a.n a.o 0 0 Rc.noKey (doD a.o) (doD_is a.o) W (fun b W' hz2 hb2=>do_any b ⟨a.o.kind,a.o.slot,a.o.old,a.o.new⟩ (by omega) hz W' ((hv.below hb).below hb2)) (h.below hb)
  ·exact pfchange_any s p fs hW hB 1 2 a.page 0 a.o 1 0 Rc.noKey (doD a.o) (doD_is a.o) W (fun b W' hz2 hb2=>do_any b ⟨a.o.kind,a.o.slot,a.o.old,a.o.new⟩ (by omega) hz W' ((hv.below hb).below hb2)) (h.below hb))
 have HAF:=Hq (show actF s fs a=(changeF s fs (recOf a) (doD a.o),⟨#[]⟩)from by unfold actF;rw[if_neg (by omega),if_neg (by omega),if_neg (by omega),if_pos hk])
 generalize changeF s fs (recOf a) (doD a.o)=X at HCH HAF
 generalize (recA (recOf a) (.slice none 0 0) (.slice none 0 0))=rv at HRE HCH
 have HQ:=Hq (fun w' (q:SP) (hp:PoolR w' X.s q X.fs) (hb:Below w.heap.size w w')=>show GtR (actF s fs a) w (.returned (.tuple #[storeV X.s q,"",X.e])) w' from by rw[HAF.out];exact⟨q,rfl,hp,hb⟩)
 generalize GtR (actF s fs a) w=Q at HQ ⊢
 clear h hW HAF hv
 have hk0:(a.kind==0)=false:=beq_eq_false_iff_ne.2 (by omega)
 have hk1:(a.kind==1)=false:=beq_eq_false_iff_ne.2 (by omega)
 have hk2:(a.kind==2)=false:=beq_eq_false_iff_ne.2 (by omega)
 go_enter Tryz.func10,Tryz.ntmps10
 go_upto_region 1 with fail
 have H0:=nW3 w (stA s p) 36 #[a.kind,a.page,a.n,a.o.kind,a.o.slot,a.o.old,a.o.new,a.p.r.lsn,a.p.r.prev,a.p.r.txn,a.p.r.kind,a.p.r.page,a.p.r.next,a.p.r.num,a.p.r.op.kind,a.p.r.op.slot,a.p.r.op.old,a.p.r.op.new,a.p.r.how,a.p.r.root,a.p.r.e.key,a.p.r.e.page,a.p.r.e.slot,.slice a.p.A a.p.r.txns.length a.p.c,.slice a.p.B a.p.r.dirty.length a.p.d] 51 #[(),(),(),"s",(),false,(),(),(),(),"","s",(),"s",()] 36
 obtain⟨W0,hW0⟩:=exW H0
 rw[← hW0]at H0 ⊢
 clear hW0
 have hc0:=show W0.cell? ⟨w.heap.size+1,0,none⟩=some (.int .i64 a.kind)from by rw[blkCell H0.out.get1];rfl
 go_upto_if 43 with fail
 go_cut [43] (fun x wc=>x= .bool true∧wc=W0)
 case first=>
  rcases hk with hk|hk
  ·have hk3:(a.kind==3)=true:=by rw[hk];rfl
   clear hk
   go_wp2_with fail
   go_meet
   case rel=>exact⟨congrArg Value.bool hk3,rfl⟩
  ·have hk3:(a.kind==3)=false:=by rw[hk];rfl
   have hk4:(a.kind==4)=true:=by rw[hk];rfl
   clear hk
   go_wp2_with fail
   go_meet
   case rel=>exact⟨rfl,rfl⟩
 case rest=>
  obtain⟨rfl,rfl⟩:=hcut
  obtain⟨w1,rfl⟩:=ex wc
  clear hk hk0 hk1 hk2 hc0
  go_upto_region 12 with fail
  have HS8:=Hq (fun(u:World) (hu:Below w1.heap.size w1 u)=>show u.heap[w.heap.size]? =some (.cells (stA s p) 36 (0,0))∧u.heap[w.heap.size+1]? =some (.cells #[a.kind,a.page,a.n,a.o.kind,a.o.slot,a.o.old,a.o.new,a.p.r.lsn,a.p.r.prev,a.p.r.txn,a.p.r.kind,a.p.r.page,a.p.r.next,a.p.r.num,a.p.r.op.kind,a.p.r.op.slot,a.p.r.op.old,a.p.r.op.new,a.p.r.how,a.p.r.root,a.p.r.e.key,a.p.r.e.page,a.p.r.e.slot,.slice a.p.A a.p.r.txns.length a.p.c,.slice a.p.B a.p.r.dirty.length a.p.d] 51 (0,0))from⟨blkOld H0.out.get0 hu,blkOld H0.out.get1 hu⟩)
  have hQ:Below w1.heap.size w1 w1.drew:=(Below.refl _ w1).drew
  have hSn:=HS8.out _ hQ
  refine wp_region_Z (S:=(fun u=>u.heap[w.heap.size]? =some (.cells (stA s p) 36 (0,0))∧u.heap[w.heap.size+1]? =some (.cells #[a.kind,a.page,a.n,a.o.kind,a.o.slot,a.o.old,a.o.new,a.p.r.lsn,a.p.r.prev,a.p.r.txn,a.p.r.kind,a.p.r.page,a.p.r.next,a.p.r.num,a.p.r.op.kind,a.p.r.op.slot,a.p.r.op.old,a.p.r.op.new,a.p.r.how,a.p.r.root,a.p.r.e.key,a.p.r.e.page,a.p.r.e.slot,.slice a.p.A a.p.r.txns.length a.p.c,.slice a.p.B a.p.r.dirty.length a.p.d] 51 (0,0)))) 7 Kr ?_ (fun hHeld=>?_)
  ·exact hSn
  generalize w1.drew=w8 at hQ hSn ⊢
  refine tzL 0 [7] Tryz.underlying36 ?_
  refine tzL 1 [7] Tryz.underlying51 ?_
  refine wpAnyZ_ready (rs:=[2]) Kr (by simp) ?_
  refine(AllReadyZ.cons (o:={dst:=some 49,op:=_,type:=_,pos:=_,after:=_,guard:=_}) rfl (fun K hK=>?_) AllReadyZ.nil)
  go_simp
  (refine(HRE.out _).mono ?_);rintro e w9 ⟨rfl,hb9⟩;have hQ2:=joinB hQ hb9;clear hQ hSn hb9;have hQ:=hQ2;clear hQ2;have hSn:=HS8.out _ hQ
  refine hKo hK (fun hHeld=>?_)
  clear hK K
  refine wpAnyZ_ready (rs:=[3]) Kr (by simp) ?_
  refine(AllReadyZ.cons (o:={dst:=some 50,op:=_,type:=_,pos:=_,after:=_,guard:=_}) rfl (fun K hK=>?_) AllReadyZ.nil)
  go_simp
  (refine(HCH.out _ (H0.out.below.trans (hQ.mono H0.out.below.size))).mono ?_);rintro e w9 ⟨q,rfl,hp9,hb9⟩;have hQ2:=joinB hQ hb9;clear hQ hSn hb9;have hQ:=hQ2;clear hQ2;have hSn:=HS8.out _ hQ
  refine hKo hK (fun hHeld=>?_)
  clear hK K
  refine tzP 4 [7] ?_
  refine tzP 5 [7] ?_
  refine wpAnyZ_takeP (i:=6) (oi:={dst:=some 52,op:=_,type:=_,pos:=_,after:=_,guard:=_}) (v:=?_) rfl Kr Kr Kr Kr (fun _ _ _ h=>h) (Or.inl ⟨by rfl,?_⟩) (fun _=>by assumption) ?_
  rotate_left
  ·intro u hSu;clear hSu;go_simp;(try with_reducible rfl)
  try simp only[Act.put,pS]
  refine wpAnyZ_ready (rs:=[7]) Kr (by simp) ?_
  refine(AllReadyZ.last (o:={dst:=none,op:=_,type:=_,pos:=_,after:=_,guard:=_}) rfl Kr (fun K hK=>?_) AllReadyZ.nil)
  refine wantedIf (by rfl) ?_
  refine sW (stA X.s q) hSn.1 ?_
  refine hK.out _ _ ?_
  clear hK K
  try simp only[Act.put]
  refine wpAnyZ_takeP (i:=8) (oi:={dst:=some 8,op:=_,type:=_,pos:=_,after:=_,guard:=_}) (v:=?_) rfl Kr Kr Kr Kr (fun _ _ _ h=>h) (Or.inl ⟨by rfl,?_⟩) (fun h=>absurd h (by decide)) ?_
  rotate_left
  ·intro u hSu;clear hSu;go_simp;(try with_reducible rfl)
  try simp only[Act.put,pS]
  refine wpAnyZ_done Kr ?_ _
  have H2:=Hq (show BxL w.heap.size w [((stA X.s q),36),(#[a.kind,a.page,a.n,a.o.kind,a.o.slot,a.o.old,a.o.new,a.p.r.lsn,a.p.r.prev,a.p.r.txn,a.p.r.kind,a.p.r.page,a.p.r.next,a.p.r.num,a.p.r.op.kind,a.p.r.op.slot,a.p.r.op.old,a.p.r.op.new,a.p.r.how,a.p.r.root,a.p.r.e.key,a.p.r.e.page,a.p.r.e.slot,.slice a.p.A a.p.r.txns.length a.p.c,.slice a.p.B a.p.r.dirty.length a.p.d],51),(#[(),(),(),"s",(),false,(),(),(),(),"","s",(),"s",()],36)] _ from(H0.out.step hQ).row 0 (stA X.s q) _ rfl)
  have HP2:=Hq (hp9.other (t:=36) hSn.1 (by decide) (by decide) (by decide) (stA X.s q))
  generalize World.setRow _ w.heap.size (stA X.s q)=w3 at H2 HP2 ⊢
  clear hp9 hSn hQ HS8 H0
  go_wp2_with (first|(with_reducible refine lL H2.out.get0 Tryz.underlying36 ?_)|(with_reducible refine lS (stA X.s q) H2.out.get2 ?_))
  refine bodyPost_ret (v:=.tuple #[.agg (stA X.s q),"",X.e]) (results_cell3 rfl _ _ rfl (load_whole (setRow_heap _ _ _ _ _ _ H2.out.get2) Tryz.underlying36 Kr Kr) rfl rfl) rfl ?_
  exact HQ.out _ q (HP2.out.other (t:=36) H2.out.get2 (by decide) (by decide) (by decide) _) (H2.out.row 2 (stA X.s q) _ rfl).below
theorem lmine_n (s:Tx.St)(p:SP)(fs:List Fr)(a:PkAct)(hk:a.kind<0)(w:World)(h:PoolR w s p fs):
 Calls Tryz.prog 10 #[storeV s p,.agg #[a.kind,a.page,a.n,a.o.kind,a.o.slot,a.o.old,a.o.new,a.p.r.lsn,a.p.r.prev,a.p.r.txn,a.p.r.kind,a.p.r.page,a.p.r.next,a.p.r.num,a.p.r.op.kind,a.p.r.op.slot,a.p.r.op.old,a.p.r.op.new,a.p.r.how,a.p.r.root,a.p.r.e.key,a.p.r.e.page,a.p.r.e.slot,.slice a.p.A a.p.r.txns.length a.p.c,.slice a.p.B a.p.r.dirty.length a.p.d]] w (GtR (actF s fs a) w):=by
 have HCA:=Hq (fun W=>start_any s.disk p.A p.c W)
 have HAF:=Hq (show actF s fs a=(⟨{s with disk:=Lg.startD s.disk},fs,0⟩,⟨#[]⟩)from by unfold actF;rw[if_neg (by omega),if_neg (by omega),if_neg (by omega),if_neg (by omega),if_neg (by omega),if_neg (by omega)])
 have HP:=Hq (show PoolR w {s with disk:=Lg.startD s.disk} p fs from⟨⟨⟨h.st.dk.secs,h.st.dk.small⟩,h.st.dt,h.st.tx,h.st.tt⟩,h.fn,h.fr,h.ft⟩)
 have HQ:=Hq (fun w' (hb:Below w.heap.size w w')=>show GtR (actF s fs a) w (.returned (.tuple #[storeV {s with disk:=Lg.startD s.disk} p,"",()])) w' from by rw[HAF.out];exact⟨p,rfl,HP.out.below hb,hb⟩)
 generalize GtR (actF s fs a) w=Q at HQ ⊢
 clear h HAF HP
 have hk0:(a.kind==0)=false:=beq_eq_false_iff_ne.2 (by omega)
 have hk1:(a.kind==1)=false:=beq_eq_false_iff_ne.2 (by omega)
 have hk2:(a.kind==2)=false:=beq_eq_false_iff_ne.2 (by omega)
 have hk3:(a.kind==3)=false:=beq_eq_false_iff_ne.2 (by omega)
 have hk4:(a.kind==4)=false:=beq_eq_false_iff_ne.2 (by omega)
 have hk5:(a.kind==5)=false:=beq_eq_false_iff_ne.2 (by omega)
 have hk6:(a.kind==6)=false:=beq_eq_false_iff_ne.2 (by omega)
 have hk7:(a.kind==7)=false:=beq_eq_false_iff_ne.2 (by omega)
 have hk8:(a.kind==8)=false:=beq_eq_false_iff_ne.2 (by omega)
 clear hk
 go_enter Tryz.func10,Tryz.ntmps10
 go_upto_region 1 with fail
 have H0:=nW3 w (stA s p) 36 #[a.kind,a.page,a.n,a.o.kind,a.o.slot,a.o.old,a.o.new,a.p.r.lsn,a.p.r.prev,a.p.r.txn,a.p.r.kind,a.p.r.page,a.p.r.next,a.p.r.num,a.p.r.op.kind,a.p.r.op.slot,a.p.r.op.old,a.p.r.op.new,a.p.r.how,a.p.r.root,a.p.r.e.key,a.p.r.e.page,a.p.r.e.slot,.slice a.p.A a.p.r.txns.length a.p.c,.slice a.p.B a.p.r.dirty.length a.p.d] 51 #[(),(),(),"s",(),false,(),(),(),(),"","s",(),"s",()] 36
 obtain⟨W0,hW0⟩:=exW H0
 rw[← hW0]at H0 ⊢
 clear hW0
 have hc0:=show W0.cell? ⟨w.heap.size+1,0,none⟩=some (.int .i64 a.kind)from by rw[blkCell H0.out.get1];rfl
 go_upto_region 21 with(first
  |(with_reducible refine lP #[.slice p.A s.disk.sectors.length p.c,s.disk.left,s.disk.down] H0.out.get0 Tryz.underlying28 ?_)
  |(go_at_call 40;(refine(HCA.out _).mono ?_);rintro e w1 ⟨rfl,hb1⟩;have H1:=Hq (H0.out.step hb1))
  |(with_reducible refine lU #[.slice p.A (Lg.startD s.disk).sectors.length p.c,.int .i64 (Lg.startD s.disk).left,.bool (Lg.startD s.disk).down] (stA {s with disk:=Lg.startD s.disk} p) H1.out.get0 ?_))
 have H2:=Hq (show BxL w.heap.size w [((stA {s with disk:=Lg.startD s.disk} p),36),(#[a.kind,a.page,a.n,a.o.kind,a.o.slot,a.o.old,a.o.new,a.p.r.lsn,a.p.r.prev,a.p.r.txn,a.p.r.kind,a.p.r.page,a.p.r.next,a.p.r.num,a.p.r.op.kind,a.p.r.op.slot,a.p.r.op.old,a.p.r.op.new,a.p.r.how,a.p.r.root,a.p.r.e.key,a.p.r.e.page,a.p.r.e.slot,.slice a.p.A a.p.r.txns.length a.p.c,.slice a.p.B a.p.r.dirty.length a.p.d],51),(#[(),(),(),"s",(),false,(),(),(),(),"","s",(),"s",()],36)] (w1.setRow w.heap.size (stA {s with disk:=Lg.startD s.disk} p))from H1.out.row 0 (stA {s with disk:=Lg.startD s.disk} p) _ rfl)
 generalize w1.setRow w.heap.size (stA {s with disk:=Lg.startD s.disk} p)=w2 at H2 ⊢
 clear hb1 H0 H1 HCA hc0
 try simp only[Act.put]
 go_wp2_with (first|(with_reducible refine lL H2.out.get0 Tryz.underlying36 ?_)|(with_reducible refine lS (stA {s with disk:=Lg.startD s.disk} p) H2.out.get2 ?_))
 refine bodyPost_ret (v:=.tuple #[.agg (stA {s with disk:=Lg.startD s.disk} p),"",()]) (results_cell3 rfl _ _ rfl (load_whole (setRow_heap _ _ _ _ _ _ H2.out.get2) Tryz.underlying36 Kr Kr) rfl rfl) rfl ?_
 exact HQ.out _ (H2.out.row 2 (stA {s with disk:=Lg.startD s.disk} p) _ rfl).below
theorem lmine_any {N n B:Nat}(s:Tx.St)(p:SP)(fs:List Fr)(hW:Wf N n B s fs)(hB:B≤1000000)(a:PkAct)(hk:a.kind<7)(hz:a.o.new.size≤140737488355328)(w:World)(hv:Vars w)(h:PoolR w s p fs):
 Calls Tryz.prog 10 #[storeV s p,.agg #[a.kind,a.page,a.n,a.o.kind,a.o.slot,a.o.old,a.o.new,a.p.r.lsn,a.p.r.prev,a.p.r.txn,a.p.r.kind,a.p.r.page,a.p.r.next,a.p.r.num,a.p.r.op.kind,a.p.r.op.slot,a.p.r.op.old,a.p.r.op.new,a.p.r.how,a.p.r.root,a.p.r.e.key,a.p.r.e.page,a.p.r.e.slot,.slice a.p.A a.p.r.txns.length a.p.c,.slice a.p.B a.p.r.dirty.length a.p.d]] w (GtR (actF s fs a) w):=by
 have hc:a.kind<0∨a.kind=0∨a.kind=1∨a.kind=2∨(a.kind=3∨a.kind=4)∨a.kind=5∨a.kind=6:=by omega
 rcases hc with h1|h1|h1|h1|h1|h1|h1
 ·exact lmine_n s p fs a h1 w h
 ·exact lmine_0 s p fs hW hB a h1 w h
 ·exact lmine_1 s p fs hW hB a h1 w h
 ·exact lmine_2 s p fs hW hB a h1 w h
 ·exact lmine_3 s p fs hW hB a h1 hz w hv h
 ·exact lmine_5 s p fs hW hB a h1 w h
 ·exact lmine_6 s p fs hW hB a h1 w h
end Go.Proofs.YtmfkhdhnbkambaaGreatDoor
