import Derived.Test.YtmfkhdhnbkambaaGreatDoorHp00
import Derived.Test.YtmfkhdhnbkambaaGreatDoorHp11
import Derived.Test.YtmfkhdhnbkambaaGreatDoorHp03
import Derived.Test.YtmfkhdhnbkambaaGreatDoorHp04
import Derived.Test.YtmfkhdhnbkambaaGreatDoorHp08
import Derived.Test.YtmfkhdhnbkambaaGreatDoorHp05
import Derived.Test.YtmfkhdhnbkambaaGreatDoorHp02
set_option maxRecDepth 100000
set_option maxHeartbeats 16000000
set_option linter.unusedSimpArgs false
namespace Go.Proofs.YtmfkhdhnbkambaaGreatDoor
open Go.RowKit Sc
theorem psector_any (s:Tx.St)(p:SP)(N n:Nat)(hz:s.zlog=(N:Int))(hN:N≤3000)(hn:n≤1000)(w:World):
 Calls Tryz.prog 131 #[storeV s p,.int .i64 (n:Int)] w fun e w'=>e= .returned (.int .i64 ((1+N+4*n:Nat):Int))∧Below w.heap.size w w':=by
 have hw1:IntKind.i64.wrap (1+(N:Int))=1+(N:Int):=IntWalk.i64_in _ (by omega)
 have hw2:IntKind.i64.wrap (4*(n:Int))=4*(n:Int):=IntWalk.i64_in _ (by omega)
 have hw3:IntKind.i64.wrap (1+(N:Int)+4*(n:Int))=1+(N:Int)+4*(n:Int):=IntWalk.i64_in _ (by omega)
 have HZ:=Hq hz
 clear hz
 go_enter Tryz.func131,Tryz.ntmps131
 go_upto_region 1 with fail
 have HG:=Hq (heap_alloc_new w (.cells (stA s p) 36))
 have HB:=Hq (allocB w (.cells (stA s p) 36))
 obtain⟨W0,hW0⟩:=ex (w.alloc (.cells (stA s p) 36))
 rw[← hW0]at HG HB ⊢
 clear hW0
 have hc:=show W0.cell? ⟨w.heap.size,0,none⟩=some (.int .i64 (N:Int))from by rw[blkCell HG.out];show some (Value.int .i64 s.zlog)=_;rw[HZ.out]
 go_wp2_with fail
 go_ret
 exact⟨congrArg (fun x=>Ending.returned (.int .i64 x)) (by omega),HB.out⟩
theorem phas_any (s:Tx.St)(p:SP)(n:Nat)(hz:s.zpages=(n:Int))(x:Int)(w:World):
 Calls Tryz.prog 75 #[storeV s p,x] w fun e w'=>e= .returned (.bool (decide (0≤x∧x<(n:Int))))∧Below w.heap.size w w':=by
 have HZ:=Hq hz
 clear hz
 have HG:=Hq (heap_alloc_new w (.cells (stA s p) 36))
 have HB:=Hq (allocB w (.cells (stA s p) 36))
 have HC:=Hq (show(w.alloc (.cells (stA s p) 36)).cell? ⟨w.heap.size,1,none⟩=some (.int .i64 (n:Int))from by rw[blkCell HG.out];show some (Value.int .i64 s.zpages)=_;rw[HZ.out])
 by_cases h0:0≤x
 ·by_cases h1:x<(n:Int)
  ·rw[decide_eq_true (show 0≤x∧x<(n:Int)from⟨h0,h1⟩)]
   go_enter Tryz.func75,Tryz.ntmps75
   go_upto_region 1 with fail
   have hc:=HC.out
   go_wp2_with fail
   go_ret
   exact⟨by simp[h0,h1],HB.out⟩
  ·rw[decide_eq_false (show ¬ (0≤x∧x<(n:Int))from fun h=>h1 h.2)]
   go_enter Tryz.func75,Tryz.ntmps75
   go_upto_region 1 with fail
   have hc:=HC.out
   go_wp2_with fail
   go_ret
   exact⟨by simp[h0,h1],HB.out⟩
 ·rw[decide_eq_false (show ¬ (0≤x∧x<(n:Int))from fun h=>h0 h.1)]
  go_enter Tryz.func75,Tryz.ntmps75
  go_upto_region 1 with fail
  go_wp2_with fail
  go_ret
  exact⟨by simp[h0],HB.out⟩
theorem pbare_any (b:ByteArray)(hb:b.size≤140737488355328)(w:World):
 Calls Tryz.prog 137 #[b] w fun e w'=>e= .returned (.string (plB b))∧Below w.heap.size w w':=by
 have HL:=Hq (fun W=>lsn_any b hb W)
 have HS:=Hq (fun W=>show Calls Tryz.prog 80 #[b,.int .i64 ((leafP b).lsn:Nat)] W fun e w'=>e= .returned (.string (plB b))∧Below W.heap.size W w' from setlsn_any b ((leafP b).lsn:Nat) hb W)
 generalize plB b=q at HS ⊢
 generalize ((leafP b).lsn:Nat)=l at HL HS
 go_enter Tryz.func137,Tryz.ntmps137
 go_wp2_with (first
  |(go_at_call 86;(with_reducible refine(HL.out _).mono ?_);rintro e w1 ⟨rfl,hb1⟩)
  |(go_at_call 80;(with_reducible refine(HS.out _).mono ?_);rintro e w2 ⟨rfl,hb2⟩))
 go_ret
 exact⟨rfl,joinB hb1 hb2⟩
theorem says_t {p:Prop}{w w':World}(hp:p)(hb:Below w.heap.size w w'):Says p w (.returned (.bool true)) w':=⟨true,rfl,⟨fun _=>hp,fun _=>rfl⟩,hb⟩
theorem says_f {p:Prop}{w w':World}(hp:¬ p)(hb:Below w.heap.size w w'):Says p w (.returned (.bool false)) w':=⟨false,rfl,⟨(fun h=>by cases h),fun h=>absurd h hp⟩,hb⟩
theorem pfree_any (f:Fr)(w:World):Calls Tryz.prog 47 #[.agg (frA f)] w (Says (¬ Full f) w):=by
 obtain⟨fp,fb,fi,fm,fr⟩:=f
 by_cases h:fb=⟨#[]⟩
 ·have HY:=Hq (fun w' hb=>says_t (p:=¬ Full ⟨fp,fb,fi,fm,fr⟩) (w:=w) (w':=w') (fun hn=>hn h) hb)
  generalize Says (¬ Full ⟨fp,fb,fi,fm,fr⟩) w=Q at HY ⊢
  subst h
  dsimp only[frA]
  have hq0:=str_nil
  go_enter Tryz.func47,Tryz.ntmps47
  go_wp2_with fail
  exact HY.out _ (allocB _ _)
 ·have HY:=Hq (fun w' hb=>says_f (p:=¬ Full ⟨fp,fb,fi,fm,fr⟩) (w:=w) (w':=w') (fun hn=>hn h) hb)
  generalize Says (¬ Full ⟨fp,fb,fi,fm,fr⟩) w=Q at HY ⊢
  obtain⟨z1,z2,z3⟩:=str_ne h
  clear h
  dsimp only[frA]
  go_enter Tryz.func47,Tryz.ntmps47
  go_wp2_with fail
  exact HY.out _ (allocB _ _)
theorem pat_clo (f:Fr)(x:Int)(b:Nat)(w:World)(hc:w.cell? ⟨b,0,none⟩=some (.int .i64 x)):Calls Tryz.prog 46 #[.agg (frA f),.pointer (some ⟨b,0,none⟩)] w (Says (Full f∧f.page=x) w):=by
 have HF:=Hq (fun W=>pfree_any f W)
 have HC:=Hq hc
 clear hc
 have hbl:b<w.heap.size:=by
  rcases Nat.lt_or_ge b w.heap.size with h|h
  ·exact h
  ·have h1:=HC.out
   rw[World.cell?,Array.getElem?_eq_none h]at h1
   cases h1
 have HCC:=Hq (fun W (hb:Below w.heap.size w W)=>show W.cell? ⟨b,0,none⟩=some (.int .i64 x)from by rw[hb.cell (p:=⟨b,0,none⟩) hbl];exact HC.out)
 have HT:=Hq (fun w' hb h=>says_t (p:=Full f∧f.page=x) (w:=w) (w':=w') h hb)
 have HN:=Hq (fun w' hb h=>says_f (p:=Full f∧f.page=x) (w:=w) (w':=w') h hb)
 by_cases hf:Full f
 ·by_cases hx:f.page=x
  ·have HQ:=Hq (fun w' hb=>HT.out w' hb ⟨hf,hx⟩)
   generalize Says (Full f∧f.page=x) w=Q at HQ ⊢
   have hpx:(f.page==x)=true:=by rw[hx];exact beq_self_eq_true _
   have HNF:=Hq hf
   clear hf hx HT HN
   go_enter Tryz.func46,Tryz.ntmps46
   go_upto_region 1 with fail
   have HG:=Hq (heap_alloc_new w (.cells (frA f) 108))
   have HB:=Hq (allocB w (.cells (frA f) 108))
   obtain⟨W0,hW0⟩:=ex (w.alloc (.cells (frA f) 108))
   rw[← hW0]at HG HB ⊢
   clear hW0
   go_wp2_with (first
    |(with_reducible refine lL HG.out Tryz.underlying108 ?_)
    |(go_at_call 47;(refine(HF.out _).mono ?_);rintro e w1 ⟨q,rfl,hq,hb1⟩;obtain rfl:q=false:=(by cases q with|true=>exact absurd HNF.out (hq.1 rfl)|false=>rfl);clear hq;have hp1:=show w1.cell? ⟨w.heap.size,0,none⟩=some (.int .i64 f.page)from(by rw[blkCell (blkOld HG.out hb1)];rfl);have hx1:=HCC.out w1 (joinB HB.out hb1)))
   exact HQ.out _ (joinB HB.out hb1)
  ·have HQ:=Hq (fun w' hb=>HN.out w' hb fun h=>hx h.2)
   generalize Says (Full f∧f.page=x) w=Q at HQ ⊢
   have hpx:(f.page==x)=false:=beq_eq_false_iff_ne.2 hx
   have HNF:=Hq hf
   clear hf hx HT HN
   go_enter Tryz.func46,Tryz.ntmps46
   go_upto_region 1 with fail
   have HG:=Hq (heap_alloc_new w (.cells (frA f) 108))
   have HB:=Hq (allocB w (.cells (frA f) 108))
   obtain⟨W0,hW0⟩:=ex (w.alloc (.cells (frA f) 108))
   rw[← hW0]at HG HB ⊢
   clear hW0
   go_wp2_with (first
    |(with_reducible refine lL HG.out Tryz.underlying108 ?_)
    |(go_at_call 47;(refine(HF.out _).mono ?_);rintro e w1 ⟨q,rfl,hq,hb1⟩;obtain rfl:q=false:=(by cases q with|true=>exact absurd HNF.out (hq.1 rfl)|false=>rfl);clear hq;have hp1:=show w1.cell? ⟨w.heap.size,0,none⟩=some (.int .i64 f.page)from(by rw[blkCell (blkOld HG.out hb1)];rfl);have hx1:=HCC.out w1 (joinB HB.out hb1)))
   exact HQ.out _ (joinB HB.out hb1)
 ·have HQ:=Hq (fun w' hb=>HN.out w' hb fun h=>hf h.1)
  generalize Says (Full f∧f.page=x) w=Q at HQ ⊢
  have HNF:=Hq hf
  clear hf HT HN
  go_enter Tryz.func46,Tryz.ntmps46
  go_upto_region 1 with fail
  have HG:=Hq (heap_alloc_new w (.cells (frA f) 108))
  have HB:=Hq (allocB w (.cells (frA f) 108))
  obtain⟨W0,hW0⟩:=ex (w.alloc (.cells (frA f) 108))
  rw[← hW0]at HG HB ⊢
  clear hW0
  go_wp2_with (first
   |(with_reducible refine lL HG.out Tryz.underlying108 ?_)
   |(go_at_call 47;(refine(HF.out _).mono ?_);rintro e w1 ⟨q,rfl,hq,hb1⟩;obtain rfl:q=true:=hq.2 HNF.out;clear hq))
  exact HQ.out _ (joinB HB.out hb1)
theorem pat_any (s:Tx.St)(p:SP)(fs:List Fr)(hl:fs.length≤1000)(x:Int)(w:World)(h:PoolR w s p fs):
 Calls Tryz.prog 14 #[storeV s p,x] w (FirstAt (fun f=>Full f∧f.page=x) fs w):=by
 have HI:=Hq (fun(b:Nat) W (hb:Below w.heap.size w W) (hc:W.cell? ⟨b,0,none⟩=some (.int .i64 x)) (hbl:b<W.heap.size)=>indexF_any (fun f=>Full f∧f.page=x) 46 #[.pointer (some ⟨b,0,none⟩)] (enters_of Tryz.func46 Kr rfl) fs (by omega) p.F p.fc W (h.fr.below hb) (fun f _ V hV=>pat_clo f x b V (by rw[hV.cell (p:=⟨b,0,none⟩) hbl];exact hc)))
 have HFN:=Hq h.fn
 have HQ:=Hq (fun W e w' (hb:Below w.heap.size w W) (hf:FirstAt (fun f=>Full f∧f.page=x) fs W e w')=>show FirstAt (fun f=>Full f∧f.page=x) fs w e w' from by
  obtain⟨k,h1,h2,h3⟩:=hf
  exact⟨k,h1,h2,joinB hb h3⟩)
 generalize FirstAt (fun f=>Full f∧f.page=x) fs w=Q at HQ ⊢
 clear h
 go_enter Tryz.func14,Tryz.ntmps14
 go_upto_region 1 with fail
 have H0:=nW2 w (stA s p) 36 #[x] 3
 obtain⟨W0,hW0⟩:=exW H0
 rw[← hW0]at H0 ⊢
 clear hW0
 have hc:=show W0.cell? ⟨w.heap.size,11,none⟩=some (.slice p.F fs.length p.fc)from by rw[blkCell H0.out.get0,← HFN.out];rfl
 have HIX:=Hq (HI.out (w.heap.size+1) W0 H0.out.below (by rw[blkCell H0.out.get1];rfl) (H0.out.lt (i:=1) (by simp)))
 go_wp2_with (go_at_call 45;(refine HIX.out.mono ?_);rintro e w1 ⟨k,rfl,hk,hb1⟩)
 exact HQ.out W0 _ _ H0.out.below ⟨k,rfl,hk,hb1⟩
theorem wpPut {P:Program}{op:Oper}{a:Act}{w:World}{K:Act→World→Prop}{Q:Exit→Act→World→Prop}(ty:TypeId)(x y:Operand)(ho:op.op= .store ty x y)
 (b o:Nat) (part cur res:Array Value) (t:TypeId) (hx:a.eval x= .pointer (some ⟨b,o,none⟩)) (hy:a.eval y= .agg part) (hg:w.heap[b]? =some (.cells cur t (0,0))) (hr:res=(cur.toList.take o++part.toList++cur.toList.drop (o+part.toList.length)).toArray)
 (hsz:decide (o+part.toList.length≤cur.size)=true) (hi:(P.info? ty).map (·.size)=some part.size) (h1:part.all (·.oneCell')=true) (h:K (a.put op.dst undef) (w.setRow b res)):op.wp P a w K Q:=by
 have hst:=run_storeCells_at P b o t part.toList 0 cur w hg (by rw[Nat.add_zero];exact of_decide_eq_true hsz) (fun v hv=>(Array.all_eq_true_iff_forall_mem.1 h1) v (by simpa using hv))
 rw[Nat.add_zero,← hr]at hst
 have hrun:(storeVar ty ⟨b,o,none⟩ (.agg part)).run P w= .ok () (w.setRow b res):=by
  cases hq:P.info? ty with
  |none=>simp[hq]at hi
  |some i=>
   have hs:part.size=i.size:=by simp[hq]at hi;omega
   simp[storeVar,sizeOf,typeInfo,hq,Value.cells,hs,hst]
 unfold Oper.wp execOp
 simp only[ho,hx,hy,Instr.storeAt,Instr.sureAddr,Sem.run_bind,Sem.run_pure,Result.andThen_ok,hrun]
 exact h
theorem PoolR.set {w:World}{s:Tx.St}{p:SP}{fs:List Fr}(h:PoolR w s p fs){b:Nat}{cur:Array Value}{t:TypeId}{fr:Nat×Nat}(hb:w.heap[b]? =some (.cells cur t fr))(h1:t≠9)(h2:t≠59)(h3:t≠108)(j:Nat)(v:Value):PoolR (w.setCell ⟨b,j,none⟩ v) s p fs:=by
 rw[setCell_eq_setRow w b j cur t fr v hb]
 exact h.other hb h1 h2 h3 _
theorem PoolR.own {w:World}{s:Tx.St}{p:SP}{fs:List Fr}(h:PoolR w s p fs){g:Nat}{cur:Array Value}{fr:Nat×Nat}(hg:w.heap[g]? =some (.cells cur 108 fr))(hne:∀ ad,p.F=some ad→ad.block≠g)(j:Nat)(v:Value):PoolR (w.setCell ⟨g,j,none⟩ v) s p fs:=
 ⟨h.st.set hg (by decide) (by decide) j v,h.fn,h.fr.off g j v (fun _=>hne),h.ft.set g j v⟩
theorem PoolR.disk {w w':World}{s:Tx.St}{p:SP}{fs:List Fr}(h:PoolR w s p fs)(hb:Below w.heap.size w w'){d:Lg.Dk}{A:Option Addr}{c:Nat}(l:Lg.Lo)(hr:DiskR w' d A c)(ht:NewT 0 w' 9 A):PoolR w' {s with disk:=d,log:=l} {p with A:=A,c:=c} fs:=by
 have h1:=h.below hb
 exact⟨⟨hr,ht,h1.st.tx,h1.st.tt⟩,h1.fn,h1.fr,h1.ft⟩
theorem pwith_any (s:Tx.St)(p:SP)(fs:List Fr)(hfl:fs.length≤100)(k:Nat)(hk:k<fs.length)(f:Fr)(w:World)(h:PoolR w s p fs):
 Calls Tryz.prog 74 #[storeV s p,k,.agg (frA f)] w fun e w'=>∃ q,e= .returned (storeV s q)∧PoolR w' s q (fs.set k f)∧Below w.heap.size w w':=by
 have HP:=Hq h
 have HFN:=Hq h.fn
 have HCL:=Hq (fun W (hb:Below w.heap.size w W)=>fclone_any fs (by omega) p.F p.fc W (h.fr.below hb))
 clear h
 go_enter Tryz.func74,Tryz.ntmps74
 go_upto_region 1 with fail
 have H0:=nW3 w (stA s p) 36 (frA f) 108 #[(),(),(),"s",(),false,(),(),(),(),"","s",(),"s",()] 36
 obtain⟨W0,hW0⟩:=exW H0
 rw[← hW0]at H0 ⊢
 clear hW0
 have hc:=show W0.cell? ⟨w.heap.size,11,none⟩=some (.slice p.F fs.length p.fc)from by rw[blkCell H0.out.get0,← HFN.out];rfl
 go_upto_region 2 with(go_at_call 124;(refine(HCL.out _ H0.out.below).mono ?_);rintro e w1 ⟨v,rfl,ho,hb1⟩;obtain⟨g,c2,rfl,hgB⟩:=ownSome ho (by omega);have H1:=Hq (H0.out.step hb1);have hcx:=show w1.cell? ⟨w.heap.size,11,none⟩=some (.slice p.F fs.length p.fc)from(by rw[blkCell H1.out.get0,← HFN.out];rfl);have hzx:=blkFrozen H1.out.get0 11)
 have hlt:w.heap.size<W0.heap.size:=by have:=H0.out.lt (i:=0) (by simp);omega
 have H2:=Hq (show BxL w.heap.size w [((stA s {p with F:=some ⟨g,0,none⟩,fn:=fs.length,fc:=c2}),36),((frA f),108),(#[(),(),(),"s",(),false,(),(),(),(),"","s",(),"s",()],36)] (w1.setCell ⟨w.heap.size,11,none⟩ (.slice (some ⟨g,0,none⟩) fs.length c2))from by have h:=H1.out.set 0 11 (.slice (some ⟨g,0,none⟩) fs.length c2) _ rfl;simpa using h)
 have HO2:=Hq (ownSet ho ⟨w.heap.size,11,none⟩ (.slice (some ⟨g,0,none⟩) fs.length c2) hlt)
 generalize w1.setCell ⟨w.heap.size,11,none⟩ (.slice (some ⟨g,0,none⟩) fs.length c2)=w2 at H2 HO2 ⊢
 have hki0:(0:Int)≤(k:Int):=by omega
 have hki:(k:Int)<(fs.length:Int):=by omega
 obtain⟨htr,hop,hbp⟩:=own_put frL_len HO2.out k hk f
 have htr2:w2.there g (k*5) (frA f).size:=htr
 have hc2:=show w2.cell? ⟨w.heap.size,11,none⟩=some (.slice (some ⟨g,0,none⟩) fs.length c2)from by rw[blkCell H2.out.get0];rfl
 clear hc hcx hzx
 go_upto_region 3 with(first|(with_reducible refine lL H2.out.get1 Tryz.underlying108 ?_)|(with_reducible refine wpList_store_mid rfl 108 (.tmp 18) (.tmp 17) rfl g (k*5) (frA f) rfl rfl htr2 Kr Kr ?_))
 have hM:w.heap.size+3≤W0.heap.size:=H0.out.lt (i:=2) (by simp)
 have H3:=Hq (H2.out.under hM hbp)
 have HO3:=Hq hop
 rw[show([.int .i64 f.page,.string f.bytes,.int .i64 f.pins,.bool f.mark,.int .i64 f.rc]:List Value)=frL f from rfl]
 generalize w2.setCells g (k*5) (frL f)=w3 at H3 HO3 ⊢
 try simp only[Act.put]
 clear htr htr2 hop hbp hc2 H1 H2 HO2 ho hb1
 go_wp2_with (first|(with_reducible refine lL H3.out.get0 Tryz.underlying36 ?_)|(with_reducible refine lS (stA s {p with F:=some ⟨g,0,none⟩,fn:=fs.length,fc:=c2}) H3.out.get2 ?_))
 refine bodyPost_ret (v:=.agg (stA s {p with F:=some ⟨g,0,none⟩,fn:=fs.length,fc:=c2})) (results_cell rfl _ _ rfl (load_whole (setRow_heap _ _ _ _ _ _ H3.out.get2) Tryz.underlying36 Kr Kr)) rfl ?_
 have HB:=(H3.out.row 2 (stA s {p with F:=some ⟨g,0,none⟩,fn:=fs.length,fc:=c2}) _ rfl).below
 have hq:=HP.out.below HB
 have hO4:=ownRowOff HO3.out (w.heap.size+2) (stA s {p with F:=some ⟨g,0,none⟩,fn:=fs.length,fc:=c2}) (by omega)
 exact⟨{p with F:=some ⟨g,0,none⟩,fn:=fs.length,fc:=c2},rfl,⟨⟨hq.st.dk,hq.st.dt,hq.st.tx,hq.st.tt⟩,by rw[List.length_set],by rw[List.length_set];exact own_reads (by rw[List.length_set]at hO4;exact hO4),(NewT.own hO4).mono (Nat.zero_le _)⟩,HB⟩
theorem fits_any (d:Lg.Dk)(A:Option Addr)(c:Nat)(a:Nat)(ha:a+4≤d.sectors.length)(hs:d.sectors.length≤1000000)(w:World):
 Calls Tryz.prog 180 #[diskV d A c,.int .i64 (a:Int)] w fun e w'=>e= .returned (.bool true)∧Below w.heap.size w w':=by
 obtain⟨L,left,down⟩:=d
 simp only at ha hs
 have h0:(0:Int)≤(a:Int):=by omega
 have h1:(a:Int)≤(L.length:Int)-4:=by omega
 have hw1:IntKind.i64.wrap ((L.length:Int)-4)=(L.length:Int)-4:=IntWalk.i64_in _ (by omega)
 clear ha hs
 go_enter Tryz.func180,Tryz.ntmps180
 go_wp2_with fail
 go_ret
 exact⟨by simp,allocB _ _⟩
theorem flat_more (L:List ByteArray){a k:Nat}(h:a+k<L.length):Lg.flat ((L.drop a).take (k+1))=Lg.flat ((L.drop a).take k)++(L[a+k]?.getD ⟨#[]⟩).data.toList:=by
 have e:(L.drop a).take (k+1)=(L.drop a).take k++[L[a+k]]:=by
  rw[List.take_add_one,List.getElem?_drop,List.getElem?_eq_getElem h];rfl
 rw[e,Lg.flat_append,List.getElem?_eq_getElem h,Option.getD_some]
 congr 1
 unfold Lg.flat
 simp
theorem creadpage_any (d:Lg.Dk)(hup:d.down=false)(hw:∀ b∈d.sectors,b.size=128)(A:Option Addr)(c:Nat)(a:Nat)(ha:a+4≤d.sectors.length)(w:World)(h:DiskR w d A c):
 Calls Tryz.prog 144 #[diskV d A c,.int .i64 (a:Int)] w fun e w'=>e= .returned (.tuple #[.string (pgAt d a),()])∧Below w.heap.size w w':=by
 have HR:=Hq (fun(k:Nat) (hk:k<4) W (hb:Below w.heap.size w W)=>show Calls Tryz.prog 186 #[diskV d A c,.int .i64 ((a:Int)+(k:Int))] W fun e w'=>e= .returned (.tuple #[.string (d.sectors[a+k]?.getD ⟨#[]⟩),()])∧Below W.heap.size W w' from by
  have h9:=dread_any d A c ((a:Int)+(k:Int)) W (h.below hb)
  have e:Lg.readD d ((a:Int)+(k:Int))=(d.sectors[a+k]?.getD ⟨#[]⟩,0):=by
   unfold Lg.readD
   rw[if_neg (by rw[hup];decide),if_pos (show Lg.hasD d _ from⟨by omega,by omega⟩)]
   unfold Lg.secAt
   rw[show((a:Int)+(k:Int)).toNat=a+k by omega]
  rw[e]at h9
  exact h9)
 have HFI:=Hq (fun W=>fits_any d A c a ha h.small W)
 have HFL:=Hq (fun(k:Nat) (hk:k<4)=>flat_more d.sectors (a:=a) (k:=k) (by omega))
 have HSZ:=Hq (fun(k:Nat) (hk:k<4)=>show(d.sectors[a+k]?.getD ⟨#[]⟩).size=128 from by rw[List.getElem?_eq_getElem (by omega),Option.getD_some];exact hw _ (List.getElem_mem _))
 have HLE:=Hq (fun k (hk:k≤4)=>show(Lg.flat ((d.sectors.drop a).take k)).length≤512 from by
  have h1:=Lg.flat_len (L:=(d.sectors.drop a).take k) (fun x hx=>hw x (List.mem_of_mem_drop (List.mem_of_mem_take hx)))
  have h2:=List.length_take_le k (d.sectors.drop a)
  omega)
 have HPG:=Hq (show pgAt d a=⟨(Lg.flat ((d.sectors.drop a).take 4)).toArray⟩from rfl)
 have hsm:=h.small
 have ha2:a≤1000000:=by omega
 obtain⟨L,left,down⟩:=d
 simp only at hup
 subst hup
 dsimp only[diskV]at HR HFI ⊢
 simp only at HFL HSZ HPG HLE ha
 generalize pgAt ⟨L,left,false⟩ a=pp at HPG ⊢
 clear h hw hsm
 clear ha
 go_enter Tryz.func144,Tryz.ntmps144
 go_upto_region 1 with fail
 have HD0:=Hq (heap_alloc_new w (.cells #[.slice A L.length c,left,false] 28))
 have HB0:=Hq (allocB w (.cells #[.slice A L.length c,left,false] 28))
 obtain⟨W0,hW0⟩:=ex (w.alloc (.cells #[.slice A L.length c,left,false] 28))
 rw[← hW0]at HD0 HB0 ⊢
 clear hW0
 have hdn:=show W0.cell? ⟨w.heap.size,2,none⟩=some (.bool false)from by rw[blkCell HD0.out];rfl
 go_upto_region 4 with(first
  |(with_reducible refine lL HD0.out Tryz.underlying28 ?_)
  |(go_at_call 180;(with_reducible refine(HFI.out _).mono ?_);rintro e w1 ⟨rfl,hb1⟩))
 clear hdn
 have HD1:=Hq (blkOld (blkOld HD0.out hb1) (allocB w1 (.cells #[.pointer none,"s"] 189)))
 have HG1:=Hq (heap_alloc_new w1 (.cells #[.pointer none,"s"] 189))
 have HB1:=Hq (joinB HB0.out (joinB hb1 (allocB w1 (.cells #[.pointer none,"s"] 189))))
 have hgl:w.heap.size<w1.heap.size:=Nat.lt_of_lt_of_le (heapLt HD0.out) hb1.size
 obtain⟨g,hg⟩:=ex w1.heap.size
 obtain⟨W1,hW1⟩:=ex (w1.alloc (.cells #[.pointer none,"s"] 189))
 have hz:W1.heap.size=g+1:=by rw[hW1,hg];simp
 rw[← hg,← hW1]at HG1
 rw[← hW1]at HD1 HB1
 rw[← hW1,← hg]
 rw[← hg]at hgl
 have HZ:=Hq hz
 clear hW1 hg hb1 HD0 HB0 hz
 try simp only[Act.put]
 go_wp2_with fail
 go_loopw [19] (fun i wr=>∃ k:Nat,k≤4∧i= .int .i64 (k:Int)∧Bld (g+1) wr.heap.size g (Lg.flat ((L.drop a).take k)) wr∧KeptB (g+1) g W1 wr) (fun i _=>4-(intOf i).toNat)
 case atStart=>exact⟨0,by omega,rfl,Bld.fresh _ _ _ _ (by omega) HG1.out,KeptB.refl _ _ _⟩
 case round=>
  obtain⟨k,hk,rfl,hbld,hkept⟩:=hrel
  have HBL:=Hq hbld
  have HK:=Hq hkept
  have hws:W1.heap.size≤wr.heap.size:=hkept.size
  have hzz:=HZ.out
  have hbw:Below w.heap.size w wr:=HB1.out.trans (HK.out.below (by omega) (by omega))
  have HBW:=Hq hbw
  clear hbld hkept hbw
  by_cases hlt:k<4
  ·have hwr:IntKind.i64.wrap ((a:Int)+(k:Int))=(a:Int)+(k:Int):=IntWalk.i64_in _ (by omega)
   have HDB:=Hq (show wr.heap[w.heap.size]? =some (.cells #[.slice A L.length c,left,false] 28 (0,0))from(HK.out.block _ (by omega) (by omega)).trans HD1.out)
   have HRD:=Hq (HR.out k hlt wr HBW.out)
   have HF2:=Hq (HFL.out k hlt)
   have hsz:=HSZ.out k hlt
   generalize L[a+k]?.getD ⟨#[]⟩=x at HRD HF2 hsz
   have hll:=HLE.out k (by omega)
   generalize Lg.flat ((L.drop a).take k)=l at HBL HF2 hll
   have HLL:=Hq hll
   clear hll
   go_wp2_with (first
    |(with_reducible refine lL HDB.out Tryz.underlying28 ?_)
    |(go_at_call 186;(with_reducible refine HRD.out.mono ?_);rintro e w2 ⟨rfl,hb1⟩;have HB2:=Hq (HBL.out.below hb1);have HK2:=Hq (HK.out.trans (KeptB.of_below (by omega) hb1));have hs1:=hb1.size;clear hb1)
    |(go_at_call 175;(with_reducible refine(write_any _ _ _ _ _ _ HB2.out (by have:=HLL.out;omega) (by omega)).mono ?_);rintro e w3 ⟨rfl,hbld2,hk2⟩;have HB3:=Hq hbld2;have HK3:=Hq (HK2.out.trans hk2);clear hbld2 hk2))
   go_roundw
   case rel=>exact⟨k+1,by omega,by go_num,by rw[HF2.out];exact HB3.out,HK3.out⟩
   case measure=>simp[intOf];omega
  ·obtain rfl:k=4:=by omega
   go_wp2_with ((go_at_call 176;(with_reducible refine(string_any _ _ _ _ _ HBL.out).mono ?_);rintro e w2 ⟨rfl,hk2⟩))
   go_ret2
   exact⟨by rw[HPG.out];rfl,HBW.out.trans (hk2.below (by omega) HBW.out.size)⟩
end Go.Proofs.YtmfkhdhnbkambaaGreatDoor
namespace Go
section
variable {P : Program} {ops : Array Oper} {Q : Exit → Act → World → Prop} {md : Region.Mode} {S : World → Prop} {z : Nat}
theorem wpAnyZ_firstP {i:Nat}{oi:Oper}{v:Value}(hi:ops[i]? =some oi)(hsel:∀ (j:Nat) (o:Oper) cs b,ops[j]? =some o→o.op≠ .select cs b)
 (hQ:∀ c a w,Q (.panic c) (a.put oi.dst v) w→Q (.panic c) a w) (hiz:i≠z):
 ∀ (fuel:Nat) (listed:Array Bool) (a:Act) (w:World),
  (∀ j oj,ops[j]? =some oj→j≠i→listed.getD j true=false→(∀ e∈oj.after,Region.binds md e=true→e.on≠i)→oi.apart ops oj=true)→
  i∈Region.ready md ops listed→YieldsIf P ops (fun _=>True) oi v a→(listed.getD z true=false→S w)→
  wpAnyZ P md ops Q S z fuel (listed.setIfInBounds i true) (a.put oi.dst v) w→wpAnyZ P md ops Q S z (fuel+1) listed a w:=by
 intro fuel
 induction fuel with
 |zero=>
  intro listed a w _ hr hy hS H
  refine⟨fun h=>(by rw[h]at hr;cases hr),fun j hj=>?_⟩
  by_cases hji:j=i
  ·subst hji;exact hy.wpOp hi trivial ⟨fun h=>hS (by rw[getD_set_ne true hiz]at h;exact h),H⟩
  ·have:=ready_mono hj hji
   rw[H.1]at this
   cases this
 |succ fuel ih=>
  intro listed a w hfree hr hy hS H
  refine⟨fun h=>(by rw[h]at hr;cases hr),fun j hj=>?_⟩
  by_cases hji:j=i
  ·subst hji;exact hy.wpOp hi trivial ⟨fun h=>hS (by rw[getD_set_ne true hiz]at h;exact h),H⟩
  ·have h1:=H.2 j (ready_mono hj hji)
   obtain⟨hjun,oj,hoj,hall⟩:=mem_ready.1 hj
   have hnot:∀ e∈oj.after,Region.binds md e=true→e.on≠i:=fun e he hb heq=>by
    have h1:=hall e he hb
    have h0:=(mem_ready.1 hr).1
    rw[heq]at h1
    rw[getD_swap h0]at h1
    cases h1
   have h2:=wpOp_putIf hoj (hfree j oj hoj hji hjun hnot) (fun cs b=>hsel i oi cs b hi) (fun cs b=>hsel j oj cs b hoj) hQ hy h1
   have hfree':∀ k ok,ops[k]? =some ok→k≠i→(listed.setIfInBounds j true).getD k true=false→
    (∀ e∈ok.after,Region.binds md e=true→e.on≠i)→oi.apart ops ok=true:=fun k ok hk hki hun hno=>by
    refine hfree k ok hk hki ?_ hno
    by_cases hjk:j=k
    ·subst hjk;exact hjun
    ·rw[getD_set_ne true hjk]at hun;exact hun
   refine wpOp_mono (fun a' w' h3=>?_) h2
   have hSw:(listed.setIfInBounds j true).getD z true=false→S w':=fun h=>h3.2.1 (by
    rw[Array.setIfInBounds_comm _ _ (Ne.symm hji),getD_set_ne true hiz];exact h)
   refine⟨hSw,ih (listed.setIfInBounds j true) a' w' hfree' (ready_mono hr (Ne.symm hji)) h3.1 hSw ?_⟩
   rw[Array.setIfInBounds_comm _ _ hji]
   exact h3.2.2
theorem wpAnyZ_takeP {i:Nat}{oi:Oper}{v:Value}{fuel:Nat}{listed:Array Bool}{a:Act}{w:World}(hi:ops[i]? =some oi)(hiz:(i != z)=true)
 (hs:Region.noSelect ops=true) (hf:Region.free md ops listed i=true) (hr:(Region.ready md ops listed).contains i=true)
 (hQ:∀ c a w,Q (.panic c) (a.put oi.dst v) w→Q (.panic c) a w) (hy:YieldsIf P ops (fun _=>True) oi v a) (hS:listed.getD z true=false→S w)
 (h:wpAnyZ P md ops Q S z fuel (listed.setIfInBounds i true) (a.put oi.dst v) w):wpAnyZ P md ops Q S z (fuel+1) listed a w:=
 wpAnyZ_firstP hi (Region.noSelect_spec hs) hQ (by simpa using hiz) fuel listed a w (Region.free_spec hi hf) (by simpa using hr) hy hS h
end
end Go
