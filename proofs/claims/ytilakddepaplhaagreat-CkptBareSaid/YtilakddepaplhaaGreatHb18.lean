import Derived.Test.YtilakddepaplhaaGreatHb00
import Derived.Test.YtilakddepaplhaaGreatHb16
import Derived.Test.YtilakddepaplhaaGreatHb17
import Derived.Test.YtilakddepaplhaaGreatHb14
import Derived.Test.YtilakddepaplhaaGreatHb15
import Derived.Test.YtilakddepaplhaaGreatHb07
set_option maxRecDepth 100000
set_option maxHeartbeats 16000000
set_option linter.unusedSimpArgs false
namespace Go.Proofs.YtilakddepaplhaaGreat
open Go.RowKit
variable {cl : Cl}
theorem size_equal (a b c:Int)(w:World):(Op.equalIn 10000 26 (.agg #[a,b,c]) (.agg #[a,b,c])).run Tryz.prog w= .ok true w:=by
 have hS:Tryz.prog.underlying 26=some (.struct (Tryz.prog.fieldsOf 26)):=by kernel_rfl
 have hp:Tryz.prog.stoodInHeld 26=false:=by kernel_rfl
 rw[show(10000:Nat)=9999+1 from rfl,run_equalIn_agg w 9999 26 _ _ hS hp]
 simp only[Program.fieldsOf,Tryz.underlying26]
 go_simp
theorem log_equal (a b c d:Int)(t:ByteArray)(w:World):(Op.equalIn 10000 31 (.agg #[a,b,c,d,t]) (.agg #[a,b,c,d,t])).run Tryz.prog w= .ok true w:=by
 have hS:Tryz.prog.underlying 31=some (.struct (Tryz.prog.fieldsOf 31)):=by kernel_rfl
 have hp:Tryz.prog.stoodInHeld 31=false:=by kernel_rfl
 rw[show(10000:Nat)=9999+1 from rfl,run_equalIn_agg w 9999 31 _ _ hS hp]
 simp only[Program.fieldsOf,Tryz.underlying31]
 go_simp
theorem neq_fr (a:Int)(b:ByteArray)(c:Int)(d:Bool)(e:Int)(w:World):(binOp .neq 81 (.agg #[a,b,c,d,e]) (.agg #[a,b,c,d,e])).run Tryz.prog w= .ok (.bool false) w:=by
 have hS:Tryz.prog.underlying 81=some (.struct (Tryz.prog.fieldsOf 81)):=by kernel_rfl
 have hp:Tryz.prog.stoodInHeld 81=false:=by kernel_rfl
 rw[run_neq_struct,show(10000:Nat)=9999+1 from rfl,run_equalIn_agg w 9999 81 _ _ hS hp]
 simp only[Program.fieldsOf,Tryz.underlying81]
 go_simp
theorem rsamef_any (s:Tx.St)(p q:SP)(fs:List Fr)(hfl:fs.length≤100)(hts:s.txns.length≤800000)(w:World)(h:PoolR w s p fs)(h':PoolR w s q fs):
 Calls Tryz.prog 12 #[storeV s p,storeV s q] w fun e w'=>e= .returned (.bool true)∧Below w.heap.size w w':=by
 have HT:=Hq (fun W (hb:Below w.heap.size w W)=>show Calls Tryz.prog 16 #[.slice p.T s.txns.length p.tc,.slice q.T s.txns.length q.tc] W fun e w'=>e= .returned (.bool true)∧Below W.heap.size W w' from by
  have h9:=rsame_txn s.txns s.txns (by omega) (by omega) p.T q.T p.tc q.tc W (h.st.tx.below hb) (h'.st.tx.below hb)
  rw[decide_eq_true rfl]at h9
  exact h9)
 have hsl:=h.st.dk.small
 have HR1:=Hq h.st.dk.secs
 have HR2:=Hq h'.st.dk.secs
 have HF1:=Hq h.fr
 have HF2:=Hq h'.fr
 have HN1:=Hq h.fn
 have HN2:=Hq h'.fn
 clear h h' hts
 have hze:=size_equal s.zlog s.zpages s.zframes
 have hle:=log_equal s.log.from_ s.log.n s.log.end_ s.log.safe s.log.tail
 go_enter Tryz.func12,Tryz.ntmps12
 go_upto_region 1 with fail
 have H0:=nW2 w (stA s p) 37 (stA s q) 37
 obtain⟨W0,hW0⟩:=exW H0
 rw[← hW0]at H0 ⊢
 clear hW0
 have hf00:=show W0.cell? ⟨w.heap.size,14,none⟩=some (.int .i64 s.next)from by rw[blkCell H0.out.get0];rfl
 have hf01:=show W0.cell? ⟨w.heap.size+1,14,none⟩=some (.int .i64 s.next)from by rw[blkCell H0.out.get1];rfl
 have hf10:=show W0.cell? ⟨w.heap.size,4,none⟩=some (.int .i64 s.disk.left)from by rw[blkCell H0.out.get0];rfl
 have hf11:=show W0.cell? ⟨w.heap.size+1,4,none⟩=some (.int .i64 s.disk.left)from by rw[blkCell H0.out.get1];rfl
 have hf20:=show W0.cell? ⟨w.heap.size,5,none⟩=some (.bool s.disk.down)from by rw[blkCell H0.out.get0];rfl
 have hf21:=show W0.cell? ⟨w.heap.size+1,5,none⟩=some (.bool s.disk.down)from by rw[blkCell H0.out.get1];rfl
 have hf30:=show W0.cell? ⟨w.heap.size,12,none⟩=some (.int .i64 s.hand)from by rw[blkCell H0.out.get0];rfl
 have hf31:=show W0.cell? ⟨w.heap.size+1,12,none⟩=some (.int .i64 s.hand)from by rw[blkCell H0.out.get1];rfl
 have hf40:=show W0.cell? ⟨w.heap.size,3,none⟩=some (.slice p.A s.disk.sectors.length p.c)from by rw[blkCell H0.out.get0];rfl
 have hf41:=show W0.cell? ⟨w.heap.size+1,3,none⟩=some (.slice q.A s.disk.sectors.length q.c)from by rw[blkCell H0.out.get1];rfl
 have hf50:=show W0.cell? ⟨w.heap.size,13,none⟩=some (.slice p.T s.txns.length p.tc)from by rw[blkCell H0.out.get0];rfl
 have hf51:=show W0.cell? ⟨w.heap.size+1,13,none⟩=some (.slice q.T s.txns.length q.tc)from by rw[blkCell H0.out.get1];rfl
 have hg0:=show W0.cell? ⟨w.heap.size,11,none⟩=some (.slice p.F fs.length p.fc)from by rw[blkCell H0.out.get0,← HN1.out];rfl
 have hg1:=show W0.cell? ⟨w.heap.size+1,11,none⟩=some (.slice q.F fs.length q.fc)from by rw[blkCell H0.out.get1,← HN2.out];rfl
 go_upto_region 5 with(first
  |(with_reducible refine lP #[s.zlog,s.zpages,s.zframes] H0.out.get0 Tryz.underlying26 ?_)
  |(with_reducible refine lP #[s.zlog,s.zpages,s.zframes] H0.out.get1 Tryz.underlying26 ?_)
  |(with_reducible refine lP #[s.log.from_,s.log.n,s.log.end_,s.log.safe,s.log.tail] H0.out.get0 Tryz.underlying31 ?_)
  |(with_reducible refine lP #[s.log.from_,s.log.n,s.log.end_,s.log.safe,s.log.tail] H0.out.get1 Tryz.underlying31 ?_)
  |(go_at_call 16;(with_reducible refine(HT.out _ H0.out.below).mono ?_);rintro e w1 ⟨rfl,hb1⟩))
 have H1:=Hq (H0.out.step hb1)
 clear hb1 H0 hze hle HT hg0 hg1 hf00 hf01 hf10 hf11 hf20 hf21 hf30 hf31 hf40 hf41 hf50 hf51
 go_wp2_with fail
 go_loopw [5] (fun v wr=>∃ k:Nat,v= .int .i64 (k:Int)∧k≤s.disk.sectors.length∧BxL w.heap.size w [((stA s p),37),((stA s q),37)] wr) (fun v _=>s.disk.sectors.length-(intOf v).toNat)
 case atStart=>exact⟨0,rfl,Nat.zero_le _,H1.out⟩
 case round=>
  obtain⟨k,rfl,hk,hbx⟩:=hrel
  have HX:=Hq hbx
  have hc0:=show wr.cell? ⟨w.heap.size,3,none⟩=some (.slice p.A s.disk.sectors.length p.c)from by rw[blkCell hbx.get0];rfl
  have hc1:=show wr.cell? ⟨w.heap.size+1,3,none⟩=some (.slice q.A s.disk.sectors.length q.c)from by rw[blkCell hbx.get1];rfl
  clear hbx H1
  by_cases hlt:k<s.disk.sectors.length
  ·have hk0:(0:Int)≤(k:Int):=by omega
   have hk1:(k:Int)<(s.disk.sectors.length:Int):=by omega
   have hwk:IntKind.i64.wrap ((k:Int)+1)=(k:Int)+1:=IntWalk.i64_in _ (by omega)
   obtain⟨b1,o1,hA1,hca,hbl1,hcell1⟩:=read_at strC_len (HR1.out.below HX.out.below) hlt
   obtain⟨b2,o2,hA2,hcb,hbl2,hcell2⟩:=read_at strC_len (HR2.out.below HX.out.below) hlt
   rw[hA1]at hc0
   rw[hA2]at hc1
   have q1:=hcell1 0 _ rfl
   have q2:=hcell2 0 _ rfl
   simp only[Nat.mul_one,Nat.add_zero]at q1 q2
   generalize s.disk.sectors[k]=x at q1 q2
   clear hcell1 hcell2 hca hcb hA1 hA2
   go_upto_region 8 with fail
   go_quiet (fail)
   go_wp2_with fail
   go_roundw
   case rel=>exact⟨k+1,by go_num,by omega,HX.out.step (drewB _ _)⟩
   case measure=>simp[intOf];omega
  ·have hk1:¬ (k:Int)<(s.disk.sectors.length:Int):=by omega
   go_wp2_with fail
   clear hc0 hc1
   go_loopw [6] (fun v wr=>∃ k:Nat,v= .int .i64 (k:Int)∧k≤fs.length∧BxL w.heap.size w [((stA s p),37),((stA s q),37)] wr) (fun v _=>fs.length-(intOf v).toNat)
   case atStart=>exact⟨0,rfl,Nat.zero_le _,HX.out⟩
   case round=>
    obtain⟨m,rfl,hm,hby⟩:=hrel
    have HY:=Hq hby
    have hd0:=show wr.cell? ⟨w.heap.size,11,none⟩=some (.slice p.F fs.length p.fc)from by rw[blkCell hby.get0,← HN1.out];rfl
    have hd1:=show wr.cell? ⟨w.heap.size+1,11,none⟩=some (.slice q.F fs.length q.fc)from by rw[blkCell hby.get1,← HN2.out];rfl
    clear hby
    by_cases hlt2:m<fs.length
    ·have hm0:(0:Int)≤(m:Int):=by omega
     have hm1:(m:Int)<(fs.length:Int):=by omega
     have hwm:IntKind.i64.wrap ((m:Int)+1)=(m:Int)+1:=IntWalk.i64_in _ (by omega)
     obtain⟨b1,o1,hA1,hca,hbl1,hcell1⟩:=read_at frL_len (HF1.out.below HY.out.below) hlt2
     obtain⟨b2,o2,hA2,hcb,hbl2,hcell2⟩:=read_at frL_len (HF2.out.below HY.out.below) hlt2
     rw[hA1]at hd0
     rw[hA2]at hd1
     generalize fs[m]=f at hcell1 hcell2
     obtain⟨fp,fb,fi,fm,fr⟩:=f
     have hne:=neq_fr fp fb fi fm fr
     have HC1:=Hq (fun u (hu:Below wr.heap.size wr u)=>show u.rangeAt b1 (o1+m*5) [.int .i64 fp,.string fb,.int .i64 fi,.bool fm,.int .i64 fr]from fun i v hv=>by rw[hu.cell (p:=⟨b1,o1+m*5+i,none⟩) hbl1];exact hcell1 i v hv)
     have HC2:=Hq (fun u (hu:Below wr.heap.size wr u)=>show u.rangeAt b2 (o2+m*5) [.int .i64 fp,.string fb,.int .i64 fi,.bool fm,.int .i64 fr]from fun i v hv=>by rw[hu.cell (p:=⟨b2,o2+m*5+i,none⟩) hbl2];exact hcell2 i v hv)
     have HD0:=Hq (fun u (hu:Below wr.heap.size wr u)=>show u.cell? ⟨w.heap.size,11,none⟩=some (.slice (some ⟨b1,o1,none⟩) fs.length p.fc)from by rw[hu.cell (p:=⟨w.heap.size,11,none⟩) (HY.out.lt (i:=0) (by simp))];exact hd0)
     have HD1:=Hq (fun u (hu:Below wr.heap.size wr u)=>show u.cell? ⟨w.heap.size+1,11,none⟩=some (.slice (some ⟨b2,o2,none⟩) fs.length q.fc)from by rw[hu.cell (p:=⟨w.heap.size+1,11,none⟩) (HY.out.lt (i:=1) (by simp))];exact hd1)
     clear hcell1 hcell2 hca hcb hA1 hA2 hbl1 hbl2
     go_upto_region 13 with fail
     have hSn:Below wr.heap.size wr wr.drew:=(Below.refl _ wr).drew
     have Hy:=Hq (fun(u:World) (hSu:Below wr.heap.size wr u)=>(And.intro (HD0.out u hSu) (HD1.out u hSu)))
     refine rgH (S:=(fun u=>Below wr.heap.size wr u)) (fun hHeld=>?_)
     generalize wr.drew=w9 at hSn ⊢
     refine tkP 0 ?_;refine tkP 1 ?_;refine tkP 2 ?_;refine tkP 3 ?_;refine tkP 4 ?_
     refine tkV 5 (some 115) (v:=.agg #[fp,fb,fi,fm,fr]) rfl (yieldsIf_load_mid (by rfl) 81 (.tmp 114) rfl b1 (o1+m*5) (by rfl) [.int .i64 fp,.string fb,.int .i64 fi,.bool fm,.int .i64 fr] _ HC1.out Tryz.underlying81 Kr Kr) ?_
     try simp only[Act.put,pS]
     refine tkP 6 ?_;refine tkP 7 ?_;refine tkP 8 ?_;refine tkP 9 ?_;refine tkP 10 ?_
     refine tkV 11 (some 121) (v:=.agg #[fp,fb,fi,fm,fr]) rfl (yieldsIf_load_mid (by rfl) 81 (.tmp 120) rfl b2 (o2+m*5) (by rfl) [.int .i64 fp,.string fb,.int .i64 fi,.bool fm,.int .i64 fr] _ HC2.out Tryz.underlying81 Kr Kr) ?_
     try simp only[Act.put,pS]
     refine tkP 12 ?_
     refine wpAnyH_done Kr ?_ _
     clear hHeld
     go_wp2_with fail
     go_roundw
     case rel=>exact⟨m+1,by go_num,by omega,HY.out.step hSn⟩
     case measure=>simp[intOf];omega
    ·have hm1:¬ (m:Int)<(fs.length:Int):=by omega
     go_wp2_with fail
     go_ret
     exact⟨rfl,HY.out.below⟩
def frC (_:Unit):List Value:=[.int .i64 0,.string ⟨#[]⟩,.int .i64 0,.bool false,.int .i64 0]
theorem frC_len (x:Unit):(frC x).length=5:=rfl
def fr4:List Value:=(List.replicate 4 ()).flatMap frC
theorem info_frame:(Tryz.prog.info? 81).map (fun i=>(i.zero,i.size,i.bytes))=some (some (.agg #[(),"",(),false,()]),5,48):=by kernel_rfl
theorem made_frames:madeCells (Value.agg #[(),"",(),false,()]).cells (4*5)=fr4.toArray:=by kernel_rfl
theorem make_frames (W:World):(Instr.makeSlice 32 (.int .i64 4) (.int .i64 4)).run Tryz.prog W= .ok (.slice (some ⟨W.heap.size,0,none⟩) 4 4) (W.alloc (.cells fr4.toArray 81)):=by
 obtain⟨i0,hi,hz0,hz1,hz2⟩:=info_parts info_frame
 have h:=run_make (P:=Tryz.prog) W 32 81 i0 (.agg #[(),"",(),false,()]) Tryz.underlying32 hi hz0 .i64 .i64 4 4 (by omega) (by omega) (by rw[hz2];omega) (by omega)
 rw[hz1,show((4:Int)).toNat=4 from rfl,made_frames]at h
 exact h
theorem reads_frames (W:World):Reads (W.alloc (.cells fr4.toArray 81)) (some ⟨W.heap.size,0,none⟩) 4 4 fr4:=fun _=>by
 refine⟨W.heap.size,0,rfl,Nat.le_refl _,by simp,fun j v hj=>?_⟩
 rw[World.cell?_alloc_new]
 simpa using hj
theorem cpool_any (w:World):
 Calls Tryz.prog 23 #[.int .i64 4] w fun e w'=>∃ b,e= .returned (.tuple #[.agg #[.slice (some ⟨b,0,none⟩) 4 4,()],()])∧Reads w' (some ⟨b,0,none⟩) 4 4 fr4∧w.heap.size≤b∧Below w.heap.size w w':=by
 have hmk:=fun W=>make_frames W
 generalize hfr:fr4.toArray=fr at hmk
 have HFR:=Hq hfr
 clear hfr
 go_enter Tryz.func23,Tryz.ntmps23
 go_upto_region 1 with fail
 have H0:=nW1 w #["s",()] 34
 obtain⟨W0,hW0⟩:=exW H0
 rw[← hW0]at H0 ⊢
 clear hW0
 go_upto_region 3 with fail
 have H1:=Hq (H0.out.step (allocB W0 (.cells fr 81)))
 go_wp2_with (first
  |(with_reducible refine lS #[.slice (some ⟨W0.heap.size,0,none⟩) 4 4,()] H1.out.get0 ?_))
 refine bodyPost_ret (v:=.tuple #[.agg #[.slice (some ⟨W0.heap.size,0,none⟩) 4 4,()],()]) (results_cell2 rfl _ _ rfl (load_whole (setRow_heap _ _ _ _ _ _ H1.out.get0) Tryz.underlying34 Kr Kr) rfl) rfl ?_
 have hlt:w.heap.size<W0.heap.size:=by have:=H0.out.lt (i:=0) (by simp);omega
 refine⟨W0.heap.size,rfl,Reads.offRow (by rw[← HFR.out];exact reads_frames W0) _ _ (fun _ ad e=>by injection e with e;rw[← e];show W0.heap.size≠w.heap.size;omega),by omega,(H1.out.row 0 _ _ rfl).below⟩
theorem cbits0 (w:World):Calls Tryz.prog 140 #[.int .u64 0] w fun e w'=>e= .returned (.int .i64 0)∧w=w':=by
 go_enter Tryz.func140,Tryz.ntmps140
 go_wp2_with fail
 go_ret
 exact⟨by kernel_rfl,rfl⟩
theorem clen0 (w:World):Calls Tryz.prog 87 #[.int .u64 0] w fun e w'=>e= .returned (.int .i64 0)∧w=w':=by
 go_enter Tryz.func87,Tryz.ntmps87
 go_wp2_with (go_at_call 140;(with_reducible refine(cbits0 _).mono ?_);rintro e w1 ⟨rfl,rfl⟩)
 go_ret
 exact⟨rfl,rfl⟩
theorem cins0 (g:Value)(w:World):Calls Tryz.prog 131 #["s",(),(),g] w fun e w'=>e= .returned (.tuple #[])∧Below w.heap.size w w':=by
 go_enter Tryz.func131,Tryz.ntmps131
 go_wp2_with fail
 go_loopw [8] (fun i wr=>i= .int .i64 1∧wr=w) (fun _ _=>0)
 case atStart=>exact⟨rfl,rfl⟩
 case round=>
  obtain⟨rfl,rfl⟩:=hrel
  go_wp2_with fail
  go_end0
  exact⟨rfl,Below.refl _ _⟩
theorem cpdq0 (g:Value)(w:World):Calls Tryz.prog 86 #["s",(),(),(),g] w fun e w'=>e= .returned (.tuple #[])∧Below w.heap.size w w':=by
 go_enter Tryz.func86,Tryz.ntmps86
 go_wp2_with fail
 go_loopw [1,2,3,10,11] (fun a b c i j wr=>a= .int .i64 0∧b= .int .i64 0∧c= .int .i64 0∧i= .bool true∧j= .bool true∧wr=w) (fun _ _ _ _ _ _=>0)
 case atStart=>exact⟨rfl,rfl,rfl,rfl,rfl,rfl⟩
 case round=>
  obtain⟨rfl,rfl,rfl,rfl,rfl,rfl⟩:=hrel
  go_wp2_with (go_at_call 131;(with_reducible refine(cins0 _ _).mono ?_);rintro e w1 ⟨rfl,hb1⟩)
  refine bodyPost_ret (v:=.tuple #[]) (results_none rfl _ _ _) rfl ?_
  exact⟨rfl,hb1⟩
theorem csort0 (g:Value)(w:World):Calls Tryz.prog 45 #["s",g] w fun e w'=>e= .returned (.tuple #[])∧Below w.heap.size w w':=by
 go_enter Tryz.func45,Tryz.ntmps45
 go_wp2_with (first
  |(go_at_call 87;(with_reducible refine(clen0 _).mono ?_);rintro e w1 ⟨rfl,rfl⟩)
  |(go_at_call 86;(with_reducible refine(cpdq0 _ _).mono ?_);rintro e w1 ⟨rfl,hb1⟩))
 go_end0
 exact⟨rfl,hb1⟩
theorem cfree0 (w:World):Calls Tryz.prog 44 #[.agg #[(),"",(),false,()]] w fun e w'=>e= .returned (.bool true)∧Below w.heap.size w w':=by
 go_enter Tryz.func44,Tryz.ntmps44
 go_wp2_with fail
 go_ret
 exact⟨by simp,allocB _ _⟩
theorem cdirty_any (s:Tx.St)(p:SP)(hf:p.fn=4)(w:World)(hr:Reads w p.F p.fc 4 fr4):
 Calls Tryz.prog 18 #[storeV s p] w fun e w'=>e= .returned (.slice none 0 0)∧Below w.heap.size w w':=by
 have HR:=Hq (show Reads w p.F p.fc (List.replicate 4 ()).length ((List.replicate 4 ()).flatMap frC)from hr)
 clear hr
 obtain⟨zl,zp,zf,⟨L,lf,dn⟩,⟨fr,ln,en,sf,tl⟩,hd,ts,nx⟩:=s
 obtain⟨A,c,FA,fn,fc,TA,tc⟩:=p
 simp only at hf
 subst hf
 dsimp only[storeV]
 go_enter Tryz.func18,Tryz.ntmps18
 go_upto_region 1 with fail
 have H0:=nW1 w #[zl,zp,zf,.slice A L.length c,lf,dn,fr,ln,en,sf,tl,.slice FA 4 fc,hd,.slice TA ts.length tc,nx] 37
 obtain⟨W0,hW0⟩:=exW H0
 rw[← hW0]at H0 ⊢
 clear hW0
 have hc0:=blkCell H0.out.get0
 go_wp2_with fail
 clear hc0
 go_loopw [3,10] (fun o i wr=>∃ k:Nat,o= .slice none 0 0∧k≤4∧i= .int .i64 (k:Int)∧Below w.heap.size w wr) (fun _ i _=>4-(intOf i).toNat)
 case atStart=>exact⟨0,rfl,Nat.zero_le _,rfl,H0.out.below⟩
 case round=>
  obtain⟨k,rfl,hk,rfl,hbw⟩:=hrel
  have HBW:=Hq hbw
  clear hbw H0
  by_cases hlt:k<4
  ·have hki:(k:Int)<4:=by omega
   have hk0:(0:Int)≤(k:Int):=by omega
   have hwk:IntKind.i64.wrap ((k:Int)+1)=(k:Int)+1:=IntWalk.i64_in _ (by omega)
   obtain⟨b,off,rfl,hc,hbl,hcell⟩:=read_at frC_len (HR.out.below HBW.out) (j:=k) (by simpa using hlt)
   have q0:=hcell 0 _ rfl
   have q1:=hcell 1 _ rfl
   have q2:=hcell 2 _ rfl
   have q3:=hcell 3 _ rfl
   have q4:=hcell 4 _ rfl
   simp only[Nat.add_zero]at q0
   clear hcell hc
   go_upto_region 5 with(with_reducible refine sN #[(),"",(),false,()] ?_)
   have HX:=Hq (heap_alloc_new wr (.cells #[(),"",(),false,()] 81))
   have HB1:=Hq (joinB HBW.out (allocB wr (.cells #[(),"",(),false,()] 81)))
   obtain⟨g,hg⟩:=ex wr.heap.size
   obtain⟨W1,hW1⟩:=ex (wr.alloc (.cells #[(),"",(),false,()] 81))
   rw[← hg]at HX
   rw[← hW1]at HX HB1
   rw[← hW1,← hg]
   clear hg hW1 q0 q1 q2 q3 q4
   go_wp2_with (first
    |(with_reducible refine lL HX.out Tryz.underlying81 ?_)
    |(go_at_call 44;(with_reducible refine(cfree0 _).mono ?_);rintro e w2 ⟨rfl,hb2⟩))
   go_roundw
   case rel=>exact⟨k+1,rfl,by omega,by go_num,joinB HB1.out hb2⟩
   case measure=>simp[intOf];omega
  ·have hki:¬ (k:Int)<4:=by omega
   go_wp2_with (go_at_call 45;(with_reducible refine(csort0 _ _).mono ?_);rintro e w2 ⟨rfl,hb2⟩)
   go_ret
   exact⟨rfl,joinB HBW.out hb2⟩
variable {cl : Cl}
theorem cpool2_any (w:World):
 Calls Tryz.prog 23 #[.int .i64 4] w fun e w'=>∃ b,e= .returned (.tuple #[.agg #[.slice (some ⟨b,0,none⟩) 4 4,()],()])∧Reads w' (some ⟨b,0,none⟩) 4 4 fr4∧NewT 0 w' 81 (some ⟨b,0,none⟩)∧w.heap.size≤b∧Below w.heap.size w w':=by
 have hmk:=fun W=>make_frames W
 generalize hfr:fr4.toArray=fr at hmk
 have HFR:=Hq hfr
 clear hfr
 go_enter Tryz.func23,Tryz.ntmps23
 go_upto_region 1 with fail
 have H0:=nW1 w #["s",()] 34
 obtain⟨W0,hW0⟩:=exW H0
 rw[← hW0]at H0 ⊢
 clear hW0
 go_upto_region 3 with fail
 have H1:=Hq (H0.out.step (allocB W0 (.cells fr 81)))
 go_wp2_with (first
  |(with_reducible refine lS #[.slice (some ⟨W0.heap.size,0,none⟩) 4 4,()] H1.out.get0 ?_))
 refine bodyPost_ret (v:=.tuple #[.agg #[.slice (some ⟨W0.heap.size,0,none⟩) 4 4,()],()]) (results_cell2 rfl _ _ rfl (load_whole (setRow_heap _ _ _ _ _ _ H1.out.get0) Tryz.underlying34 Kr Kr) rfl) rfl ?_
 have hlt:w.heap.size<W0.heap.size:=by have:=H0.out.lt (i:=0) (by simp);omega
 refine⟨W0.heap.size,rfl,Reads.offRow (by rw[← HFR.out];exact reads_frames W0) _ _ (fun _ ad e=>by injection e with e;rw[← e];show W0.heap.size≠w.heap.size;omega),(fun ad e=>by injection e with e;subst e;exact⟨Nat.zero_le _,fr,(0,0),(heap_setRow_other _ _ _ _ (show W0.heap.size≠w.heap.size by omega)).trans (heap_alloc_new W0 _)⟩),by omega,(H1.out.row 0 _ _ rfl).below⟩
def freshT (n:Nat):Tx.St:=⟨(n:Int),4,4,Lg.newD (n+17),⟨1,(n:Int),0,0,⟨#[]⟩⟩,0,[],1⟩
def freshF:List Fr:=List.replicate 4 ⟨0,⟨#[]⟩,0,false,0⟩
structure DoK (cl:Cl) (s s':Tx.St):Prop where
 lg:LogI cl s'
 dk:DkI s'.disk
 zl:s'.zlog=s.zlog
 zp:s'.zpages=s.zpages
 tx:s'.txns.length≤s.txns.length+2
 n0:s.next≤s'.next
 n1:s'.next≤s.next+1
theorem DoK.refl {s:Tx.St}(hl:LogI cl s)(hd:DkI s.disk):DoK cl s s:=⟨hl,hd,rfl,rfl,by omega,by omega,by omega⟩
theorem note_right {l:List Rc.TxnAt}{r:Rc.Rec}(hl:∀ t∈l,Rc.txnR t)(h:r.kind=7∨Rc.num r.lsn∧Rc.num r.txn∧Rc.num r.next):∀ t∈Tx.noteT l r,Rc.txnR t:=by
 have hz:=num0
 have htn:∀ t,Rc.txnR t→¬ r.kind=7→Rc.txnR (Tx.tuneT r t):=fun t ht h7=>by
  obtain⟨h1,h2,h3⟩:=h.resolve_left h7
  refine⟨ht.1,h1,?_⟩
  show Rc.num (if r.kind=1∨r.kind=2 then r.lsn else if r.kind=3∨r.kind=4 then r.next else t.next)
  split
  ·exact h1
  ·split
   ·exact h3
   ·exact ht.2.2
 intro t ht
 unfold Tx.noteT at ht
 split at ht
 ·exact hl t ht
 ·cases hp:Tx.placeT l r.txn with
  |none=>
   rw[hp]at ht
   simp only at ht
   split at ht
   ·exact hl t ht
   ·rename_i h7
    rcases List.mem_append.1 ht with h1|h1
    ·exact hl t h1
    ·rw[List.mem_singleton.1 h1];exact htn _ ⟨(h.resolve_left h7).2.1,hz,hz⟩ h7
  |some i=>
   rw[hp]at ht
   simp only at ht
   obtain⟨hi,_⟩:=Tx.placeT_some hp
   split at ht
   ·rcases List.mem_append.1 ht with h1|h1
    ·exact hl t (List.mem_of_mem_take h1)
    ·exact hl t (List.mem_of_mem_drop h1)
   ·rename_i h7
    rcases List.mem_append.1 ht with h1|h1
    ·exact hl t (List.mem_of_mem_take h1)
    ·rcases List.mem_cons.1 h1 with h1|h1
     ·rw[h1,List.getElem?_eq_getElem hi];exact htn _ (hl _ (List.getElem_mem hi)) h7
     ·exact hl t (List.mem_of_mem_drop h1)
theorem putS_keep {s:Tx.St}(hl:LogI cl s)(r:Rc.Rec)(hr:r.kind=7∨Rc.num r.txn∧Rc.num r.next):LogI cl (Tx.putS s r).1∧(Tx.putS s r).1.disk=s.disk∧(Tx.putS s r).1.zlog=s.zlog∧(Tx.putS s r).1.zpages=s.zpages∧(Tx.putS s r).1.next=s.next∧(Tx.putS s r).1.txns.length≤s.txns.length+1:=by
 refine⟨⟨Tx.logB_put hl.b r,Tx.al_put r hl.al,by unfold Tx.putS;split<;>exact hl.n,by unfold Tx.putS;split;exact cl.app _ _ _ hl.ev;exact hl.ev,by unfold Tx.putS;split;exact note_right hl.tr (hr.elim .inl fun h=>.inr ⟨app_num hl.b r,h⟩);exact hl.tr⟩,?_⟩
 unfold Tx.putS
 split
 ·exact⟨rfl,rfl,rfl,rfl,Tx.noteT_len _ _⟩
 ·exact⟨rfl,rfl,rfl,rfl,Nat.le_succ _⟩
theorem ownS_keep {s:Tx.St}(hl:LogI cl s)(n:Int)(o:Bool)(r:Rc.Rec)(hx:Rc.num r.next):LogI cl (Tx.ownS s n o r).1∧(Tx.ownS s n o r).1.disk=s.disk∧(Tx.ownS s n o r).1.zlog=s.zlog∧(Tx.ownS s n o r).1.zpages=s.zpages∧(Tx.ownS s n o r).1.next=s.next∧(Tx.ownS s n o r).1.txns.length≤s.txns.length+1:=by
 unfold Tx.ownS
 split
 ·exact⟨hl,rfl,rfl,rfl,rfl,Nat.le_succ _⟩
 ·split
  ·exact⟨hl,rfl,rfl,rfl,rfl,Nat.le_succ _⟩
  ·rename_i hf _
   refine putS_keep hl _ (.inr ⟨?_,hx⟩)
   unfold Tx.findS at hf
   cases hp:Tx.placeT s.txns n with
   |none=>rw[hp]at hf;exact absurd rfl hf
   |some i=>
    obtain⟨hi,h1,_⟩:=Tx.placeT_some hp
    show Rc.num n
    rw[← h1];exact(hl.tr _ (List.getElem_mem hi)).1
theorem begin_keep {s:Tx.St}(hl:LogI cl s)(hd:DkI s.disk)(hnx:Rc.num s.next):DoK cl s (Tx.beginS s).1:=by
 obtain⟨h1,h2,h3,h4,h5,h6⟩:=putS_keep hl (Rc.bare 1 0 0 s.next) (.inr ⟨hnx,num0⟩)
 unfold Tx.beginS
 split
 ·exact⟨h1.of rfl rfl h1.ev h1.tr,by show DkI (Tx.putS s _).1.disk;rw[h2];exact hd,h3,h4,by show(Tx.putS s _).1.txns.length≤_;omega,by show s.next≤s.next+1;omega,Int.le_refl _⟩
 ·exact DoK.refl hl hd
theorem commit_keep {s:Tx.St}(hl:LogI cl s)(hd:DkI s.disk)(n:Int):DoK cl s (Tx.commitS s n).1:=by
 obtain⟨h1,h2,h3,h4,h5,h6⟩:=ownS_keep hl n true (Rc.bare 5 0 0 0) num0
 have hd1:DkI (Tx.ownS s n true (Rc.bare 5 0 0 0)).1.disk:=by rw[h2];exact hd
 unfold Tx.commitS
 generalize Tx.ownS s n true (Rc.bare 5 0 0 0)=x at h1 h2 h3 h4 h5 h6 hd1 ⊢
 obtain⟨s1,e1⟩:=x
 simp only at h1 h2 h3 h4 h5 h6 hd1 ⊢
 have f1:LogI cl (Tx.forceS s1).1:=h1.force
 have f2:DkI (Tx.forceS s1).1.disk:=(hd1.force s1.log).1
 have f3:(Tx.forceS s1).1.zlog=s1.zlog∧(Tx.forceS s1).1.zpages=s1.zpages∧(Tx.forceS s1).1.next=s1.next∧(Tx.forceS s1).1.txns=s1.txns:=⟨rfl,rfl,rfl,rfl⟩
 split
 ·generalize Tx.forceS s1=y at f1 f2 f3 ⊢
  obtain⟨s2,e2⟩:=y
  simp only at f1 f2 f3 ⊢
  obtain⟨f4,f5,f6,f7⟩:=f3
  split
  ·obtain⟨g1,g2,g3,g4,g5,g6⟩:=putS_keep f1 (Rc.bare 7 0 (Tx.markS s2 n) n) (.inl rfl)
   unfold Tx.closeS
   split
   ·refine⟨g1,by rw[g2];exact f2,g3.trans (f4.trans h3),g4.trans (f5.trans h4),?_,?_,?_⟩
    ·simp only;rw[f7]at g6;omega
    ·simp only;rw[g5,f6,h5];exact Int.le_refl _
    ·simp only;rw[g5,f6,h5];omega
   ·refine⟨f1.of rfl rfl f1.ev (note_right f1.tr (.inl rfl)),f2,f4.trans h3,f5.trans h4,?_,?_,?_⟩
    ·have h9:=Tx.noteT_len s2.txns (Rc.bare 7 0 (Tx.markS s2 n) n)
     rw[f7]at h9
     show(Tx.noteT s2.txns _).length≤_
     rw[f7];omega
    ·show s.next≤s2.next;rw[f6,h5];exact Int.le_refl _
    ·show s2.next≤_;rw[f6,h5];omega
  ·refine⟨f1,f2,f4.trans h3,f5.trans h4,?_,?_,?_⟩
   ·simp only;rw[f7];omega
   ·simp only;rw[f6,h5];exact Int.le_refl _
   ·simp only;rw[f6,h5];omega
 ·exact⟨h1,hd1,h3,h4,by simp only;omega,by simp only;omega,by simp only;omega⟩
theorem fresh_log (n:Nat)(hn:n≤60)(hN:(n:Int)=cl.N)(hP:cl.P (Lg.newD (n+17)) ⟨1,n,0,0,⟨#[]⟩⟩):LogI cl (freshT n):=by
 refine⟨⟨?_,?_,?_,?_,rfl,?_,?_,?_,?_⟩,⟨?_,?_,?_⟩,hN,hP,fun _ h=>by cases h⟩<;>first|exact Int.le_refl (0:Int)|rfl|(show(0:Int)≤(n:Int);omega)|(show(n:Int)≤1000;omega)|(show(0:Int)≤128000;decide)
theorem fresh_disk (n:Nat):DkI (freshT n).disk:=by
 refine⟨fun x hx=>?_,by show(-9223372036854775808:Int)≤-1∧(-1:Int)≤9223372036854775807;omega⟩
 have h1:x∈List.replicate (n+17) Lg.zero128:=hx
 rw[(List.mem_replicate.1 h1).2]
 exact Lg.zero128_size
theorem fresh_frames:FrI freshF:=by
 have hb:∀ i (hi:i<freshF.length),freshF[i].bytes=⟨#[]⟩:=fun i hi=>by
  have h1:freshF[i]∈freshF:=List.getElem_mem hi
  rw[(List.mem_replicate.1 h1).2]
 refine⟨rfl,fun i hi h=>absurd (hb i hi) h,fun i j hi hj _ h _=>absurd (hb i hi) h,fun i hi=>?_,fun i hi=>?_⟩
 ·rw[hb i hi];exact Nat.zero_le _
 ·have h1:freshF[i]∈freshF:=List.getElem_mem hi
  rw[(List.mem_replicate.1 h1).2];exact num0
theorem cpfresh_any (n:Nat)(hn:n≤60)(w:World):
 Calls Tryz.prog 8 #[.int .i64 (n:Int)] w fun e w'=>∃ q,e= .returned (storeV (freshT n) q)∧PoolR w' (freshT n) q freshF∧Below w.heap.size w w':=by
 have HN:=Hq (fun W=>show Calls Tryz.prog 22 #[.int .i64 ((n:Int)+17)] W (CNewOut (Lg.newD (n+17)) W)from by
  have h:=cnew_any (n+17) (by omega) (by omega) W
  rw[show(((n+17:Nat):Nat):Int)=(n:Int)+17 from by omega]at h
  exact h)
 have HL:=Hq (fun W=>lnew_any 1 (n:Int) W)
 have HP:=Hq (fun W=>cpool2_any W)
 have hw1:IntKind.i64.wrap ((n:Int)+17)=(n:Int)+17:=IntWalk.i64_in _ (by omega)
 unfold freshT
 generalize Lg.newD (n+17)=d0 at HN ⊢
 go_enter Tryz.func8,Tryz.ntmps8
 go_upto_region 1 with fail
 have H0:=nW1 w #[(),(),(),"s",(),false,(),(),(),(),"","s",(),"s",()] 37
 obtain⟨W0,hW0⟩:=exW H0
 rw[← hW0]at H0 ⊢
 clear hW0
 go_upto_region 2 with(first
  |(go_at_call 22;(with_reducible refine(HN.out _).mono ?_);rintro e w1 ⟨A1,c1,rfl,hd1,ht1,hb1⟩)
  |(with_reducible refine sN #[.slice A1 d0.sectors.length c1,d0.left,d0.down] ?_))
 have hb2:=hb1.trans ((allocB w1 (.cells #[.slice A1 d0.sectors.length c1,d0.left,d0.down] 29)).mono hb1.size)
 have H1:=Hq (H0.out.step hb2)
 have HG:=Hq (heap_alloc_new w1 (.cells #[.slice A1 d0.sectors.length c1,d0.left,d0.down] 29))
 have HD:=Hq (hd1.below (allocB w1 (.cells #[.slice A1 d0.sectors.length c1,d0.left,d0.down] 29)))
 have HT:=Hq ((ht1.mono (Nat.zero_le _)).below (allocB w1 (.cells #[.slice A1 d0.sectors.length c1,d0.left,d0.down] 29)))
 have hl1:w.heap.size<w1.heap.size:=Nat.lt_of_lt_of_le (H0.out.lt (i:=0) (by simp)) hb1.size
 obtain⟨gd,hge⟩:=ex w1.heap.size
 obtain⟨W1,hW1⟩:=ex (w1.alloc (.cells #[.slice A1 d0.sectors.length c1,d0.left,d0.down] 29))
 rw[← hge]at HG hl1
 rw[← hW1]at H1 HG HD HT
 rw[← hW1,← hge]
 clear hge hW1 hb1 hb2 hd1 ht1 H0 HN
 try simp only[Act.put]
 go_upto_region 3 with(first
  |(go_at_call 23;(with_reducible refine(HP.out _).mono ?_);rintro e w2 ⟨bf,rfl,hfr,hft,hbf,hb3⟩)
  |(with_reducible refine sN #[.slice (some ⟨bf,0,none⟩) 4 4,()] ?_))
 have hba:=allocB w2 (.cells #[.slice (some ⟨bf,0,none⟩) 4 4,()] 34)
 have hb4:=hb3.trans (hba.mono hb3.size)
 have H2:=Hq (H1.out.step hb4)
 have HG2:=Hq (blkOld HG.out hb4)
 have HQ:=Hq (heap_alloc_new w2 (.cells #[.slice (some ⟨bf,0,none⟩) 4 4,()] 34))
 have HD2:=Hq (HD.out.below hb4)
 have HT2:=Hq (HT.out.below hb4)
 have HF2:=Hq (hfr.below hba)
 have HN2:=Hq (hft.below hba)
 have hl2:w.heap.size<w2.heap.size:=Nat.lt_of_lt_of_le (H1.out.lt (i:=0) (by simp)) hb3.size
 obtain⟨gp,hpe⟩:=ex w2.heap.size
 obtain⟨W2,hW2⟩:=ex (w2.alloc (.cells #[.slice (some ⟨bf,0,none⟩) 4 4,()] 34))
 rw[← hpe]at HQ hl2
 rw[← hW2]at H2 HG2 HQ HD2 HT2 HF2 HN2
 rw[← hW2,← hpe]
 clear hpe hW2 hb3 hb4 hba hfr hft hbf H1 HG HD HT HP
 try simp only[Act.put]
 have H9:=H2.out.drew
 have hP9:PoolR W2.drew ⟨(n:Int),4,4,d0,⟨1,(n:Int),0,0,⟨#[]⟩⟩,0,[],1⟩ ⟨A1,c1,some ⟨bf,0,none⟩,4,4,none,0⟩ freshF:=⟨⟨HD2.out.below (Below.refl _ W2).drew,HT2.out.below (Below.refl _ W2).drew,Reads.none_ _ _ _ _,NewT.none_ _ _ _⟩,rfl,HF2.out.below (Below.refl _ W2).drew,HN2.out.below (Below.refl _ W2).drew⟩
 have hSn:W2.drew.heap[gd]? =some (.cells #[.slice A1 d0.sectors.length c1,d0.left,d0.down] 29 (0,0))∧W2.drew.heap[gp]? =some (.cells #[.slice (some ⟨bf,0,none⟩) 4 4,()] 34 (0,0)):=⟨HG2.out,HQ.out⟩
 refine rgH (S:=(fun u=>u.heap[gd]? =some (.cells #[.slice A1 d0.sectors.length c1,d0.left,d0.down] 29 (0,0))∧u.heap[gp]? =some (.cells #[.slice (some ⟨bf,0,none⟩) 4 4,()] 34 (0,0)))) (fun hHeld=>?_)
 generalize W2.drew=w9 at hSn H9 hP9 ⊢
 refine tkP 0 ?_;refine tkP 1 ?_
 refine tkL 2 Tryz.underlying29 ?_
 refine tkP 3 ?_
 refine tkL 5 Tryz.underlying34 ?_
 refine rdP 4 fun K hK=>?_
 go_simp
 refine(HL.out _).mono ?_;rintro e w5 ⟨rfl,hb5⟩;have hSm:=And.intro (blkOld hSn.1 hb5) (blkOld hSn.2 hb5);have Hm:=H9.step hb5;have hPm:=hP9.below hb5;clear hSn H9 hP9;have hSn:=hSm;have H9:=Hm;have hP9:=hPm;clear hSm Hm hPm
 refine hKo hK (fun hHeld=>?_)
 clear hK K
 refine tkP 6 ?_
 refine rdP 7 fun K hK=>?_
 refine wantedIf (by rfl) ?_
 refine sW (stA ⟨(n:Int),4,4,d0,⟨1,(n:Int),0,0,⟨#[]⟩⟩,0,[],1⟩ ⟨A1,c1,some ⟨bf,0,none⟩,4,4,none,0⟩) H9.get0 ?_
 have hSm:=And.intro ((heap_setRow_other _ _ (stA ⟨(n:Int),4,4,d0,⟨1,(n:Int),0,0,⟨#[]⟩⟩,0,[],1⟩ ⟨A1,c1,some ⟨bf,0,none⟩,4,4,none,0⟩) _ (show gd≠w.heap.size by omega)).trans hSn.1) ((heap_setRow_other _ _ (stA ⟨(n:Int),4,4,d0,⟨1,(n:Int),0,0,⟨#[]⟩⟩,0,[],1⟩ ⟨A1,c1,some ⟨bf,0,none⟩,4,4,none,0⟩) _ (show gp≠w.heap.size by omega)).trans hSn.2)
 clear hSn
 have hSn:=hSm
 clear hSm
 refine hKo hK (fun hHeld=>?_)
 clear hK K
 refine wpAnyH_done Kr ?_ _
 clear hHeld
 go_wp2_with fail
 refine bodyPost_ret (v:=.agg (stA ⟨(n:Int),4,4,d0,⟨1,(n:Int),0,0,⟨#[]⟩⟩,0,[],1⟩ ⟨A1,c1,some ⟨bf,0,none⟩,4,4,none,0⟩)) (results_cell rfl _ _ rfl (load_whole (setRow_heap _ _ _ _ _ _ H9.get0) Tryz.underlying37 Kr Kr)) rfl ?_
 exact⟨⟨A1,c1,some ⟨bf,0,none⟩,4,4,none,0⟩,rfl,hP9.other (t:=37) H9.get0 (by decide) (by decide) (by decide) _,(H9.row 0 (stA ⟨(n:Int),4,4,d0,⟨1,(n:Int),0,0,⟨#[]⟩⟩,0,[],1⟩ ⟨A1,c1,some ⟨bf,0,none⟩,4,4,none,0⟩) _ rfl).below⟩
theorem cpfew_any (n:Int)(A:Option Addr)(k c:Nat)(w:World):
 Calls Tryz.prog 6 #[n,.slice A k c] w fun e w'=>e= .returned (.bool (decide (0≤n∧n≤60∧k≤30)))∧Below w.heap.size w w':=by
 have hb:Below w.heap.size w w:=⟨rfl,rfl,rfl,Nat.le_refl _,fun _ _=>rfl⟩
 by_cases h0:0≤n
 ·by_cases h1:n≤60
  ·by_cases h2:(k:Int)≤30
   ·rw[show decide (0≤n∧n≤60∧k≤30)=true from decide_eq_true ⟨h0,h1,by omega⟩]
    go_enter Tryz.func6,Tryz.ntmps6
    go_wp2_with fail
    go_ret
    exact⟨by simp,hb⟩
   ·rw[show decide (0≤n∧n≤60∧k≤30)=false from decide_eq_false (fun h=>h2 (by omega))]
    have h3:decide ((k:Int)≤30)=false:=decide_eq_false h2
    go_enter Tryz.func6,Tryz.ntmps6
    go_wp2_with fail
    go_ret
    exact⟨by simp,hb⟩
  ·rw[show decide (0≤n∧n≤60∧k≤30)=false from decide_eq_false (fun h=>h1 h.2.1)]
   go_enter Tryz.func6,Tryz.ntmps6
   go_wp2_with fail
   go_ret
   exact⟨by simp,hb⟩
 ·rw[show decide (0≤n∧n≤60∧k≤30)=false from decide_eq_false (fun h=>h0 h.1)]
  go_enter Tryz.func6,Tryz.ntmps6
  go_wp2_with fail
  go_ret
  exact⟨by simp,hb⟩
variable {cl : Cl}
def FuOut (cl:Cl)(s:Tx.St)(w:World)(e:Ending)(w':World):Prop:=
 ∃ (d:Lg.Dk) (l:Lg.Lo) (q:SP) (fs':List Fr) (x:Int),e= .returned (.tuple #[storeV {s with disk:=d,log:=l} q,x])∧PoolR w' {s with disk:=d,log:=l} q fs'∧FrI fs'∧DkI d∧d.sectors.length=s.disk.sectors.length∧LogI cl {s with disk:=d,log:=l}∧Below w.heap.size w w'
theorem rFlush41_any (s:Tx.St)(p:SP)(fs:List Fr)(hl:LogI cl s)(hd:DkI s.disk)(hz:0≤s.zlog∧s.zlog≤100)(hzp:s.zpages=4)(hf:FrI fs)(n:Int)(w:World)(h:PoolR w s p fs):
 Calls Tryz.prog 29 #[storeV s p,n] w (FuOut cl s w):=by
 have hfl:fs.length≤100:=by have:=hf.n4;omega
 have HIS:=Hq (fun W=>rpis_any s p n W)
 have HFN:=Hq h.fn
 have HP:=Hq h
 have HF:=Hq hf
 have HAT:=Hq (fun W (hb:Below w.heap.size w W)=>rat_any s p fs h.fn hfl n W (h.fr.below hb))
 have HFL:=Hq (fun k hk hpg hsz W (hb:Below w.heap.size w W)=>rflush41_any s p fs hl hd hz hfl k hk hpg hsz W (h.below hb))
 have HSM:=Hq (fun W (hb:Below w.heap.size w W) (x:Int)=>show FuOut cl s w (.returned (.tuple #[storeV s p,x])) W from⟨s.disk,s.log,p,fs,x,rfl,h.below hb,hf,hd,rfl,hl,hb⟩)
 rw[hzp]at HIS
 clear h hl hd hz hzp hf
 by_cases hn:0≤n∧n<4
 ·rw[decide_eq_true hn]at HIS
  go_enter Tryz.func29,Tryz.ntmps29
  go_upto_region 1 with fail
  have H0:=nW2 w (stA s p) 37 #[(),(),(),"s",(),false,(),(),(),(),"","s",(),"s",()] 37
  obtain⟨W0,hW0⟩:=exW H0
  rw[← hW0]at H0 ⊢
  clear hW0
  go_upto_region 3 with(first|(with_reducible refine lL H0.out.get0 Tryz.underlying37 ?_)|(go_at_call 53;(refine(HIS.out _).mono ?_);rintro e w1 ⟨rfl,hb1⟩;have H1:=Hq (H0.out.step hb1)))
  go_upto_region 4 with(first|(with_reducible refine lL H1.out.get0 Tryz.underlying37 ?_)|(go_at_call 57;(refine(HAT.out _ H1.out.below).mono ?_);rintro e w2 ⟨hq,hb2⟩;have H2:=Hq (H1.out.step hb2);clear hb1 hb2 H0 H1;rcases hq with⟨rfl,-⟩|⟨k,hk,rfl,hbk,hpk⟩))
  ·have hm1:(-1:Int)<0:=by decide
   clear HFL HIS HAT
   go_wp2_with (first|(with_reducible refine lL H2.out.get0 Tryz.underlying37 ?_)|(with_reducible refine lS (stA s p) H2.out.get1 ?_))
   refine bodyPost_ret (v:=.tuple #[.agg (stA s p),()]) (results_cell2 rfl _ _ rfl (load_whole (setRow_heap _ _ _ _ _ _ H2.out.get1) Tryz.underlying37 Kr Kr) rfl) rfl ?_
   exact HSM.out _ (H2.out.row 1 (stA s p) _ rfl).below 0
  ·have hk0:¬ (k:Int)<0:=by omega
   have hk1:(0:Int)≤(k:Int):=by omega
   have hki:(k:Int)<(fs.length:Int):=by omega
   obtain⟨b,off,hpF,hcc,hbl,hcell⟩:=read_at frL_len (HP.out.fr.below H2.out.below) hk
   have hc:=show w2.cell? ⟨w.heap.size,11,none⟩=some (.slice (some ⟨b,off,none⟩) fs.length p.fc)from by rw[blkCell H2.out.get0,← hpF,← HFN.out];rfl
   have hrc:=hcell 4 _ rfl
   have HFK:=Hq (HFL.out k hk (by rw[hpk];omega) (HF.out.sz k hk))
   generalize fs[k].rc=rc at hrc
   clear hcell hcc hbl hpF HFL HIS HAT hbk hpk
   by_cases hr:rc=0
   ·have hrb:(rc==0)=true:=by rw[hr];rfl
    clear hr
    go_wp2_with (first|(with_reducible refine lL H2.out.get0 Tryz.underlying37 ?_)|(with_reducible refine lS (stA s p) H2.out.get1 ?_))
    refine bodyPost_ret (v:=.tuple #[.agg (stA s p),()]) (results_cell2 rfl _ _ rfl (load_whole (setRow_heap _ _ _ _ _ _ H2.out.get1) Tryz.underlying37 Kr Kr) rfl) rfl ?_
    exact HSM.out _ (H2.out.row 1 (stA s p) _ rfl).below 0
   ·have hrb:(rc==0)=false:=beq_eq_false_iff_ne.2 hr
    go_upto_region 7 with(first
     |(with_reducible refine lL H2.out.get0 Tryz.underlying37 ?_)
     |(go_at_call 66;(refine(HFK.out _ H2.out.below).mono ?_);rintro e w3 ⟨d,l,q,fs2,x,rfl,hpq,hk2,hd2,hl2,hlg,hb3⟩;have HLN:=Hq hl2;clear hl2)
     |(with_reducible refine sN (stA {s with disk:=d,log:=l} q) ?_))
    have hb4:=allocB w3 (.cells (stA {s with disk:=d,log:=l} q) 37)
    have H4:=Hq (H2.out.step (hb3.trans (hb4.mono hb3.size)))
    have HG4:=Hq (heap_alloc_new w3 (.cells (stA {s with disk:=d,log:=l} q) 37))
    have HP4:=Hq (hpq.below hb4)
    go_wp2_with (first|(with_reducible refine lL HG4.out Tryz.underlying37 ?_)|(with_reducible refine lS (stA {s with disk:=d,log:=l} q) H4.out.get1 ?_))
    refine bodyPost_ret (v:=.tuple #[.agg (stA {s with disk:=d,log:=l} q),x]) (results_cell2 rfl _ _ rfl (load_whole (setRow_heap _ _ _ _ _ _ H4.out.get1) Tryz.underlying37 Kr Kr) rfl) rfl ?_
    exact⟨d,l,q,fs2,x,rfl,HP4.out.other H4.out.get1 (by decide) (by decide) (by decide) _,HF.out.keep hk2,hd2,HLN.out,hlg,(H4.out.row 1 (stA {s with disk:=d,log:=l} q) _ rfl).below⟩
 ·rw[decide_eq_false hn]at HIS
  go_enter Tryz.func29,Tryz.ntmps29
  go_upto_region 1 with fail
  have H0:=nW2 w (stA s p) 37 #[(),(),(),"s",(),false,(),(),(),(),"","s",(),"s",()] 37
  obtain⟨W0,hW0⟩:=exW H0
  rw[← hW0]at H0 ⊢
  clear hW0
  go_wp2_with (first|(go_at_call 53;(refine(HIS.out _).mono ?_);rintro e w1 ⟨rfl,hb1⟩;have H1:=Hq (H0.out.step hb1))|(with_reducible refine lS (stA s p) H1.out.get1 ?_)|(with_reducible refine lL H1.out.get0 Tryz.underlying37 ?_)|(with_reducible refine lL H0.out.get0 Tryz.underlying37 ?_))
  refine bodyPost_ret (v:=.tuple #[.agg (stA s p),.int .i64 1]) (results_cell2 rfl _ _ rfl (load_whole (setRow_heap _ _ _ _ _ _ H1.out.get1) Tryz.underlying37 Kr Kr) rfl) rfl ?_
  exact HSM.out _ (H1.out.row 1 (stA s p) _ rfl).below 1
variable {cl : Cl}
structure CkI (cl:Cl) (s:Tx.St) (fs:List Fr):Prop where
 lg:LogI cl s
 dk:DkI s.disk
 zl:0≤s.zlog∧s.zlog≤100
 zp:s.zpages=4
 fr:FrI fs
 tx:s.txns.length≤1000
 nx:0≤s.next∧s.next≤1000000
def DoOut (cl:Cl)(s:Tx.St)(w:World)(e:Ending)(w':World):Prop:=
 ∃ (s':Tx.St) (q:SP) (fs':List Fr),e= .returned (storeV s' q)∧PoolR w' s' q fs'∧FrI fs'∧DoK cl s s'∧Below w.heap.size w w'
theorem PoolR.store {w w':World}{s s':Tx.St}{p p':SP}{fs:List Fr}(h:PoolR w s p fs)(hb:Below w.heap.size w w')(hs:StoreR w' s' p')(hF:p'.F=p.F∧p'.fn=p.fn∧p'.fc=p.fc):PoolR w' s' p' fs:=by
 have h1:=h.below hb
 obtain⟨a,b,c⟩:=hF
 exact⟨hs,by rw[b];exact h1.fn,by rw[a,c];exact h1.fr,by rw[a];exact h1.ft⟩
theorem arm_keep {d:Lg.Dk}(h:DkI d)(n:Int)(hn:n≤9223372036854775807):DkI (Lg.armD d n):=by
 refine⟨h.sz,?_⟩
 unfold Lg.armD
 show _≤(if n<0 then(-1:Int)else n)∧(if n<0 then(-1:Int)else n)≤_
 split<;>omega
theorem cpdo_any (s:Tx.St)(p:SP)(fs:List Fr)(hi:CkI cl s fs)(k t pg n:Int)(hn:n≤9223372036854775807)(harm:k=4→cl.P (Lg.armD s.disk n) s.log)(w:World)(h:PoolR w s p fs):
 Calls Tryz.prog 9 #[storeV s p,.agg #[k,t,pg,n]] w (DoOut cl s w):=by
 have HP:=Hq h
 have HI:=Hq hi
 have HARM:=Hq harm
 have HBG:=Hq (fun W (hb:Below w.heap.size w W)=>rbegin_any s p hi.lg.b (by have:=hi.tx;omega) hi.nx.1 (by have:=hi.nx.2;omega) W (h.st.below hb))
 have HCM:=Hq (fun W (hb:Below w.heap.size w W)=>rcommit_any s p hi.lg.b hi.lg.al (by have:=hi.tx;omega) hi.dk.lb t W (h.st.below hb))
 have HCH:=Hq (fun W (hb:Below w.heap.size w W)=>show Calls Tryz.prog 26 #[storeV s p,.agg #[(),(),t,.int .i64 2,pg,(),(),.int .i64 1,(),"",.string ⟨#[97]⟩,.int .i64 1,(),"",(),(),"s","s"]] W (ChOut cl s W)from rchange41_any s p fs hi.lg hi.dk hi.zl hi.zp (by have:=hi.tx;omega) hi.fr t pg W (h.below hb))
 have HFU:=Hq (fun W (hb:Below w.heap.size w W)=>rFlush41_any s p fs hi.lg hi.dk hi.zl hi.zp hi.fr pg W (h.below hb))
 have HBK:=Hq (begin_keep hi.lg hi.dk ⟨hi.nx.1,by have:=hi.nx.2;omega⟩)
 have HCK:=Hq (commit_keep hi.lg hi.dk t)
 generalize Tx.beginS s=xb at HBG HBK
 generalize Tx.commitS s t=xc at HCM HCK
 clear h hi harm
 by_cases h0:k=0
 ·subst h0
  go_enter Tryz.func9,Tryz.ntmps9
  go_upto_region 1 with fail
  have H0:=nW3 w (stA s p) 37 #[(),t,pg,n] 40 #[(),(),(),"s",(),false,(),(),(),(),"","s",(),"s",()] 37
  obtain⟨W0,hW0⟩:=exW H0
  rw[← hW0]at H0 ⊢
  clear hW0
  have hk:=show W0.cell? ⟨w.heap.size+1,0,none⟩=some (.int .i64 0)from by rw[blkCell H0.out.get1];rfl
  skip
  go_wp2_with (first
   |(with_reducible refine lL H0.out.get0 Tryz.underlying37 ?_)
   |(go_at_call 25;(refine(HBG.out _ H0.out.below).mono ?_);rintro e w1 ⟨p1,rfl,hs1,hF1,hb1⟩;have hba:=allocB w1 (.cells (stA xb.1 p1) 37);have hb2:=hb1.trans (hba.mono hb1.size);have H2:=Hq (H0.out.step hb2);have HG:=Hq (heap_alloc_new w1 (.cells (stA xb.1 p1) 37));have HP2:=Hq ((HP.out.store (H0.out.below.trans (hb1.mono H0.out.below.size)) hs1 hF1).below hba))
   |(with_reducible refine sN (stA xb.1 p1) ?_)
   |(with_reducible refine lL HG.out Tryz.underlying37 ?_)
   |(with_reducible refine lS (stA xb.1 p1) H2.out.get2 ?_))
  refine bodyPost_ret (v:=.agg (stA xb.1 p1)) (results_cell rfl _ _ rfl (load_whole (setRow_heap _ _ _ _ _ _ H2.out.get2) Tryz.underlying37 Kr Kr)) rfl ?_
  exact⟨xb.1,p1,fs,rfl,HP2.out.other (t:=37) H2.out.get2 (by decide) (by decide) (by decide) _,HI.out.fr,HBK.out,(H2.out.row 2 (stA xb.1 p1) _ rfl).below⟩
 by_cases h1:k=1
 ·subst h1
  go_enter Tryz.func9,Tryz.ntmps9
  go_upto_region 1 with fail
  have H0:=nW3 w (stA s p) 37 #[.int .i64 1,t,pg,n] 40 #[(),(),(),"s",(),false,(),(),(),(),"","s",(),"s",()] 37
  obtain⟨W0,hW0⟩:=exW H0
  rw[← hW0]at H0 ⊢
  clear hW0
  have hk:=show W0.cell? ⟨w.heap.size+1,0,none⟩=some (.int .i64 1)from by rw[blkCell H0.out.get1];rfl
  have h1c:=show W0.cell? ⟨w.heap.size+1,1,none⟩=some (.int .i64 t)from by rw[blkCell H0.out.get1];rfl
  have h2c:=show W0.cell? ⟨w.heap.size+1,2,none⟩=some (.int .i64 pg)from by rw[blkCell H0.out.get1];rfl
  go_wp2_with (first
   |(with_reducible refine lL H0.out.get0 Tryz.underlying37 ?_)
   |(go_at_call 26;(refine(HCH.out _ H0.out.below).mono ?_);rintro e w1 ⟨l1,ts1,p1,fs1,x1,rfl,hp1,hf1,hlg1,hln1,hb1⟩;have hba:=allocB w1 (.cells (stA {s with log:=l1,txns:=ts1} p1) 37);have hb2:=hb1.trans (hba.mono hb1.size);have H2:=Hq (H0.out.step hb2);have HG:=Hq (heap_alloc_new w1 (.cells (stA {s with log:=l1,txns:=ts1} p1) 37));have HP2:=Hq ((hp1).below hba))
   |(with_reducible refine sN (stA {s with log:=l1,txns:=ts1} p1) ?_)
   |(with_reducible refine lL HG.out Tryz.underlying37 ?_)
   |(with_reducible refine lS (stA {s with log:=l1,txns:=ts1} p1) H2.out.get2 ?_))
  refine bodyPost_ret (v:=.agg (stA {s with log:=l1,txns:=ts1} p1)) (results_cell rfl _ _ rfl (load_whole (setRow_heap _ _ _ _ _ _ H2.out.get2) Tryz.underlying37 Kr Kr)) rfl ?_
  exact⟨{s with log:=l1,txns:=ts1},p1,fs1,rfl,HP2.out.other (t:=37) H2.out.get2 (by decide) (by decide) (by decide) _,hf1,⟨hlg1,HI.out.dk,rfl,rfl,by show ts1.length≤_;omega,Int.le_refl _,by show s.next≤s.next+1;omega⟩,(H2.out.row 2 (stA {s with log:=l1,txns:=ts1} p1) _ rfl).below⟩
 by_cases h3:k=3
 ·subst h3
  go_enter Tryz.func9,Tryz.ntmps9
  go_upto_region 1 with fail
  have H0:=nW3 w (stA s p) 37 #[.int .i64 3,t,pg,n] 40 #[(),(),(),"s",(),false,(),(),(),(),"","s",(),"s",()] 37
  obtain⟨W0,hW0⟩:=exW H0
  rw[← hW0]at H0 ⊢
  clear hW0
  have hk:=show W0.cell? ⟨w.heap.size+1,0,none⟩=some (.int .i64 3)from by rw[blkCell H0.out.get1];rfl
  have h1c:=show W0.cell? ⟨w.heap.size+1,1,none⟩=some (.int .i64 t)from by rw[blkCell H0.out.get1];rfl
  go_wp2_with (first
   |(with_reducible refine lL H0.out.get0 Tryz.underlying37 ?_)
   |(go_at_call 27;(refine(HCM.out _ H0.out.below).mono ?_);rintro e w1 ⟨p1,rfl,hs1,hF1,hb1⟩;have hba:=allocB w1 (.cells (stA xc.1 p1) 37);have hb2:=hb1.trans (hba.mono hb1.size);have H2:=Hq (H0.out.step hb2);have HG:=Hq (heap_alloc_new w1 (.cells (stA xc.1 p1) 37));have HP2:=Hq ((HP.out.store (H0.out.below.trans (hb1.mono H0.out.below.size)) hs1 hF1).below hba))
   |(with_reducible refine sN (stA xc.1 p1) ?_)
   |(with_reducible refine lL HG.out Tryz.underlying37 ?_)
   |(with_reducible refine lS (stA xc.1 p1) H2.out.get2 ?_))
  refine bodyPost_ret (v:=.agg (stA xc.1 p1)) (results_cell rfl _ _ rfl (load_whole (setRow_heap _ _ _ _ _ _ H2.out.get2) Tryz.underlying37 Kr Kr)) rfl ?_
  exact⟨xc.1,p1,fs,rfl,HP2.out.other (t:=37) H2.out.get2 (by decide) (by decide) (by decide) _,HI.out.fr,HCK.out,(H2.out.row 2 (stA xc.1 p1) _ rfl).below⟩
 by_cases h4:k=4
 ·subst h4
  go_enter Tryz.func9,Tryz.ntmps9
  go_upto_region 1 with fail
  have H0:=nW3 w (stA s p) 37 #[.int .i64 4,t,pg,n] 40 #[(),(),(),"s",(),false,(),(),(),(),"","s",(),"s",()] 37
  obtain⟨W0,hW0⟩:=exW H0
  rw[← hW0]at H0 ⊢
  clear hW0
  have hk:=show W0.cell? ⟨w.heap.size+1,0,none⟩=some (.int .i64 4)from by rw[blkCell H0.out.get1];rfl
  have h3c:=show W0.cell? ⟨w.heap.size+1,3,none⟩=some (.int .i64 n)from by rw[blkCell H0.out.get1];rfl
  go_wp2_with (first
   |(with_reducible refine lP #[.slice p.A s.disk.sectors.length p.c,s.disk.left,s.disk.down] H0.out.get0 Tryz.underlying29 ?_)
   |(go_at_call 28;(refine(arm_any s.disk p.A p.c n _).mono ?_);rintro e w1 ⟨rfl,hb1⟩;have H2:=Hq (H0.out.step hb1);have HP2:=Hq (HP.out.below H2.out.below))
   |(with_reducible refine lU #[.slice p.A (Lg.armD s.disk n).sectors.length p.c,.int .i64 (Lg.armD s.disk n).left,.bool (Lg.armD s.disk n).down] (stA {s with disk:=Lg.armD s.disk n} p) H2.out.get0 ?_)
   |(with_reducible refine listLoad Kr 37 (.tmp 2) rfl w.heap.size rfl (stA {s with disk:=Lg.armD s.disk n} p) _ (setRow_heap _ _ _ _ _ _ H2.out.get0) _ Tryz.underlying37 Kr Kr ?_)
   |(with_reducible refine lS (stA {s with disk:=Lg.armD s.disk n} p) (H2.out.row 0 (stA {s with disk:=Lg.armD s.disk n} p) _ rfl).get2 ?_))
  refine bodyPost_ret (v:=.agg (stA {s with disk:=Lg.armD s.disk n} p)) (results_cell rfl _ _ rfl (load_whole (setRow_heap _ _ _ _ _ _ (H2.out.row 0 (stA {s with disk:=Lg.armD s.disk n} p) _ rfl).get2) Tryz.underlying37 Kr Kr)) rfl ?_
  have hP3:=HP2.out.other (t:=37) H2.out.get0 (by decide) (by decide) (by decide) (stA {s with disk:=Lg.armD s.disk n} p)
  have hP4:=hP3.other (t:=37) (H2.out.row 0 (stA {s with disk:=Lg.armD s.disk n} p) _ rfl).get2 (by decide) (by decide) (by decide) (stA {s with disk:=Lg.armD s.disk n} p)
  exact⟨{s with disk:=Lg.armD s.disk n},p,fs,rfl,⟨⟨⟨hP4.st.dk.secs,hP4.st.dk.small⟩,hP4.st.dt,hP4.st.tx,hP4.st.tt⟩,hP4.fn,hP4.fr,hP4.ft⟩,HI.out.fr,⟨HI.out.lg.of rfl rfl (HARM.out (by trivial)) HI.out.lg.tr,arm_keep HI.out.dk n hn,rfl,rfl,by show s.txns.length≤_;omega,Int.le_refl _,by show s.next≤s.next+1;omega⟩,((H2.out.row 0 (stA {s with disk:=Lg.armD s.disk n} p) _ rfl).row 2 (stA {s with disk:=Lg.armD s.disk n} p) _ rfl).below⟩
 by_cases h5:k=5
 ·subst h5
  go_enter Tryz.func9,Tryz.ntmps9
  go_upto_region 1 with fail
  have H0:=nW3 w (stA s p) 37 #[.int .i64 5,t,pg,n] 40 #[(),(),(),"s",(),false,(),(),(),(),"","s",(),"s",()] 37
  obtain⟨W0,hW0⟩:=exW H0
  rw[← hW0]at H0 ⊢
  clear hW0
  have hk:=show W0.cell? ⟨w.heap.size+1,0,none⟩=some (.int .i64 5)from by rw[blkCell H0.out.get1];rfl
  have h2c:=show W0.cell? ⟨w.heap.size+1,2,none⟩=some (.int .i64 pg)from by rw[blkCell H0.out.get1];rfl
  go_wp2_with (first
   |(with_reducible refine lL H0.out.get0 Tryz.underlying37 ?_)
   |(go_at_call 29;(refine(HFU.out _ H0.out.below).mono ?_);rintro e w1 ⟨d1,l1,p1,fs1,x1,rfl,hp1,hf1,hd1,hln1,hlg1,hb1⟩;have HLL:=Hq hln1;clear hln1;have hba:=allocB w1 (.cells (stA {s with disk:=d1,log:=l1} p1) 37);have hb2:=hb1.trans (hba.mono hb1.size);have H2:=Hq (H0.out.step hb2);have HG:=Hq (heap_alloc_new w1 (.cells (stA {s with disk:=d1,log:=l1} p1) 37));have HP2:=Hq ((hp1).below hba))
   |(with_reducible refine sN (stA {s with disk:=d1,log:=l1} p1) ?_)
   |(with_reducible refine lL HG.out Tryz.underlying37 ?_)
   |(with_reducible refine lS (stA {s with disk:=d1,log:=l1} p1) H2.out.get2 ?_))
  refine bodyPost_ret (v:=.agg (stA {s with disk:=d1,log:=l1} p1)) (results_cell rfl _ _ rfl (load_whole (setRow_heap _ _ _ _ _ _ H2.out.get2) Tryz.underlying37 Kr Kr)) rfl ?_
  exact⟨{s with disk:=d1,log:=l1},p1,fs1,rfl,HP2.out.other (t:=37) H2.out.get2 (by decide) (by decide) (by decide) _,hf1,⟨hlg1,hd1,rfl,rfl,by show s.txns.length≤_;omega,Int.le_refl _,by show s.next≤s.next+1;omega⟩,(H2.out.row 2 (stA {s with disk:=d1,log:=l1} p1) _ rfl).below⟩
 have e0:(k==0)=false:=beq_eq_false_iff_ne.2 h0
 have e1:(k==1)=false:=beq_eq_false_iff_ne.2 h1
 have e3:(k==3)=false:=beq_eq_false_iff_ne.2 h3
 have e4:(k==4)=false:=beq_eq_false_iff_ne.2 h4
 have e5:(k==5)=false:=beq_eq_false_iff_ne.2 h5
 go_enter Tryz.func9,Tryz.ntmps9
 go_upto_region 1 with fail
 have H0:=nW3 w (stA s p) 37 #[k,t,pg,n] 40 #[(),(),(),"s",(),false,(),(),(),(),"","s",(),"s",()] 37
 obtain⟨W0,hW0⟩:=exW H0
 rw[← hW0]at H0 ⊢
 clear hW0
 have hk:=show W0.cell? ⟨w.heap.size+1,0,none⟩=some (.int .i64 k)from by rw[blkCell H0.out.get1];rfl
 go_wp2_with (first
  |(with_reducible refine lL H0.out.get0 Tryz.underlying37 ?_)
  |(with_reducible refine lS (stA s p) H0.out.get2 ?_))
 refine bodyPost_ret (v:=.agg (stA s p)) (results_cell rfl _ _ rfl (load_whole (setRow_heap _ _ _ _ _ _ H0.out.get2) Tryz.underlying37 Kr Kr)) rfl ?_
 exact⟨s,p,fs,rfl,(HP.out.below H0.out.below).other (t:=37) H0.out.get2 (by decide) (by decide) (by decide) _,HI.out.fr,DoK.refl HI.out.lg HI.out.dk,(H0.out.row 2 (stA s p) _ rfl).below⟩
end Go.Proofs.YtilakddepaplhaaGreat
