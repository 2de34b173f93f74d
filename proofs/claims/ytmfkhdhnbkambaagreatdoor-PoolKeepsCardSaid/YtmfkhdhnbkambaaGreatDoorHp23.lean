import Derived.Test.YtmfkhdhnbkambaaGreatDoorHp00
import Derived.Test.YtmfkhdhnbkambaaGreatDoorHp15
import Derived.Test.YtmfkhdhnbkambaaGreatDoorHp12
import Derived.Test.YtmfkhdhnbkambaaGreatDoorHp11
import Derived.Test.YtmfkhdhnbkambaaGreatDoorHp08
import Derived.Test.YtmfkhdhnbkambaaGreatDoorHp22
import Derived.BigRegion
import Derived.BigQuiet
set_option maxRecDepth 100000
set_option maxHeartbeats 16000000
set_option linter.unusedSimpArgs false
namespace Go.Proofs.YtmfkhdhnbkambaaGreatDoor
open Go.RowKit Sc
theorem made_at (z:Array Value)(n i:Nat)(hi:i<n):(madeCells z n)[i]? =some (z[i%z.size]!):=by
 unfold madeCells
 rw[Array.getElem?_map,Array.getElem?_range,if_pos hi];rfl
theorem made_free (k:Nat):madeCells (Value.agg #[(),"",(),false,()]).cells (k*5)=((freeF k).flatMap frL).toArray:=by
 have hk:((freeF k).flatMap frL).length=k*5:=by rw[flat_len frL_len,freeF_len]
 apply Array.ext_getElem?
 intro i
 have hR:((freeF k).flatMap frL).toArray[i]? =((freeF k).flatMap frL)[i]? :=by simp
 rw[hR]
 by_cases hi:i<k*5
 ·have e1:i=i/5*5+i%5:=by omega
  have h5:i/5<(freeF k).length:=by rw[freeF_len];omega
  have h6:=flat_at frL_len (freeF k) (i/5) (i%5) h5 (by omega)
  rw[← e1,freeF_at h5]at h6
  rw[made_at _ _ _ hi,h6]
  have hm:i%5=0∨i%5=1∨i%5=2∨i%5=3∨i%5=4:=by omega
  show some (#[Value.int .i64 0,"",(),false,()][i%5]!)=_
  rcases hm with h|h|h|h|h<;>rw[h]<;>rfl
 ·rw[Array.getElem?_eq_none (by rw[size_madeCells];omega),List.getElem?_eq_none (by omega)]
theorem make_free (k:Nat)(hk:k≤64)(W:World):(Instr.makeSlice 31 (.int .i64 (k:Int)) (.int .i64 (k:Int))).run Tryz.prog W= .ok (.slice (some ⟨W.heap.size,0,none⟩) k k) (W.alloc (.cells ((freeF k).flatMap frL).toArray 108)):=by
 obtain⟨i0,hi,hz0,hz1,hz2⟩:=info_parts info_fr
 have h:=run_make (P:=Tryz.prog) W 31 108 i0 (.agg #[(),"",(),false,()]) Tryz.underlying31 hi hz0 .i64 .i64 (k:Int) (k:Int) (by omega) (by omega) (by rw[hz2];omega) (by omega)
 rw[hz1,Int.toNat_natCast,made_free]at h
 exact h
def PnOut (k:Nat)(w:World)(e:Ending)(w':World):Prop:=
 ∃ b,e= .returned (.tuple #[.agg #[.slice (some ⟨b,0,none⟩) k k,()],()])∧Reads w' (some ⟨b,0,none⟩) k k ((freeF k).flatMap frL)∧NewT w.heap.size w' 108 (some ⟨b,0,none⟩)∧Below w.heap.size w w'
theorem rpool_new (k:Nat)(hk:1≤k∧k≤64)(w:World):
 Calls Tryz.prog 28 #[.int .i64 (k:Int)] w (PnOut k w):=by
 have hmk:=fun W=>make_free k hk.2 W
 have hl1:¬ (k:Int)<1:=by omega
 have hl2:¬ (64:Int)<(k:Int):=by omega
 generalize hfr:((freeF k).flatMap frL).toArray=fr at hmk
 have HFR:=Hq hfr
 clear hfr
 go_enter Tryz.func28,Tryz.ntmps28
 go_upto_region 1 with fail
 have H0:=nW1 w #["s",()] 33
 obtain⟨W0,hW0⟩:=exW H0
 rw[← hW0]at H0 ⊢
 clear hW0
 go_upto_region 3 with fail
 have H1:=Hq (H0.out.step (allocB W0 (.cells fr 108)))
 have HG:=Hq (heap_alloc_new W0 (.cells fr 108))
 go_wp2_with (with_reducible refine lS #[.slice (some ⟨W0.heap.size,0,none⟩) k k,()] H1.out.get0 ?_)
 refine bodyPost_ret (v:=.tuple #[.agg #[.slice (some ⟨W0.heap.size,0,none⟩) k k,()],()]) (results_cell2 rfl _ _ rfl (load_whole (setRow_heap _ _ _ _ _ _ H1.out.get0) Tryz.underlying33 Kr Kr) rfl) rfl ?_
 have hlt:w.heap.size<W0.heap.size:=by have:=H0.out.lt (i:=0) (by simp);omega
 have hx:=(heap_setRow_other (W0.alloc (.cells fr 108)) w.heap.size #[.slice (some ⟨W0.heap.size,0,none⟩) k k,()] W0.heap.size (by omega)).trans HG.out
 refine⟨W0.heap.size,rfl,reads_blk (T:=108) (by rw[hx,← HFR.out]) (Nat.le_refl _),fun ad e=>?_,(H1.out.row 0 _ _ rfl).below⟩
 injection e with e
 subst e
 exact⟨by show w.heap.size≤W0.heap.size;omega,_,_,hx⟩
noncomputable def blankL (N:Nat):Lg.Lo×Int×Int:=Lg.appendD ⟨1,(N:Int),0,0,⟨#[]⟩⟩ (Rc.bare 1 0 0 1)
noncomputable def blankS (N n k:Nat):Tx.St:={newS N n k with log:=(blankL N).1,txns:=[⟨1,(blankL N).2.1,(blankL N).2.1,false⟩],next:=2}
theorem blank_log {N n k:Nat}(hn:1≤n∧n≤60∧N≤3000)(hN:10≤N)(hk:1≤k∧k≤64):∃ g:Lg.Lo,blankL N=(g,1,0)∧PI N n {newS N n k with log:=g} (freeF k) (fun _=>newB (0:Nat)):=by
 have h0:PI N n (newS N n k) (freeF k) (fun _=>newB (0:Nat)):=pi_new hn hk
 obtain⟨g2,e,h1,_,_⟩:=h0.log (Rc.bare 1 0 0 1) (.small 1 _ 0 1 (.inl rfl) ⟨by show(0:Int)≤0+1;decide,by show(0:Int)+1<_;decide⟩ Rc.num0' ⟨by decide,by decide⟩) (by show(1:Int)≠9;decide) (by show(0:Int)+1262≤(N:Int)*128;omega)
 exact⟨g2,e,h1⟩
theorem blank_low (N:Nat):LoW N (blankL N).1:=by
 refine LoW.append (l:=⟨1,(N:Int),0,0,⟨#[]⟩⟩) ⟨Int.le_refl _,?_,Int.le_refl _,Int.le_refl _,rfl,rfl,⟨Int.le_refl _,Int.le_refl _,rfl⟩⟩ _
 show(0:Int)≤(N:Int)*128
 omega
theorem num_one:Rc.num 1:=⟨by decide,by decide⟩
theorem blank_wf {N n k:Nat}(hn:1≤n∧n≤60∧N≤3000)(hN:10≤N)(hk:1≤k∧k≤64):Wf N n 0 (blankS N n k) (freeF k):=by
 have hl:=blank_low N
 obtain⟨g,e,_⟩:=blank_log hn hN hk
 have hf:=hl.ef
 have hnn:=hl.n
 refine⟨rfl,rfl,hn,⟨hl.e0,by show(blankL N).1.end_≤_;omega,hl.t0,hl.t1,hl.f,by show 0≤(blankL N).1.n;omega,by show(blankL N).1.n≤_;omega,hl.al.s0,hl.al.se⟩,hl.al,hl.n,hl.ef,
  ⟨fun x hx=>?_,⟨by show _≤(-1:Int);decide,by show(-1:Int)≤_;decide⟩,List.length_replicate⟩,by rw[freeF_len];exact hk,⟨Int.le_refl _,(by decide:(0:Int)≤64)⟩,fun i hi=>?_,fun i j hi hj _ hb _=>?_,by show 1≤800000;omega,fun t ht=>?_⟩
 ·rw[(List.mem_replicate.1 hx).2];exact Lg.zero128_size
 ·rw[freeF_at hi]
  exact⟨by decide,⟨Int.le_refl _,Int.le_refl _⟩,num_zero,⟨Int.le_refl _,by show(0:Int)<(n:Int);omega⟩,fun h=>absurd rfl h,fun h=>absurd rfl h⟩
 ·rw[Full,freeF_at hi]at hb;exact absurd rfl hb
 ·have ht2:t=⟨1,(blankL N).2.1,(blankL N).2.1,false⟩:=by simpa[blankS]using ht
  rw[ht2,e]
  exact⟨num_one,num_one,num_one⟩
theorem blank_pq {N n k:Nat}(hn:1≤n∧n≤60∧N≤3000)(hN:10≤N)(hk:1≤k∧k≤64):PQ N n (blankS N n k) (freeF k) (fun _=>newB (0:Nat)):=by
 obtain⟨g,e,h⟩:=blank_log hn hN hk
 exact⟨rfl,rfl,by show Pw _ _ (newS N n k).disk (blankL N).1;rw[e];exact h.pw,⟨h.fr.at_,h.fr.ds⟩,h.nm,h.dk⟩
theorem rblank_any (N n k:Nat)(hn:1≤n∧n≤60∧N≤3000)(hk:1≤k∧k≤64)(w:World):
 Calls Tryz.prog 7 #[.agg #[.int .i64 (N:Int),.int .i64 (n:Int),.int .i64 (k:Int)]] w fun e w'=>∃ q:SP,e= .returned (storeV (blankS N n k) q)∧PoolR w' (blankS N n k) q (freeF k)∧Below w.heap.size w w':=by
 have HDN:=Hq (fun W=>show Calls Tryz.prog 27 #[.int .i64 ((1+N+4*n:Nat):Int)] W (NewOut (Lg.newD (1+N+4*n)) W)from dnew_any (1+N+4*n) (by omega) (by omega) W)
 have HPN:=Hq (fun W=>rpool_new k hk W)
 have HLN:=Hq (fun W=>rlnew_any 1 (N:Int) W)
 have HAP:=Hq (fun W=>show Calls Tryz.prog 29 #[logV ⟨1,(N:Int),0,0,⟨#[]⟩⟩,.agg #[(),(),.int .i64 1,.int .i64 1,(),(),(),(),(),"","",(),(),"",(),(),"s","s"]] W (AppOut (blankL N) W)from by
  have h0:=rappend_any ⟨1,(N:Int),0,0,⟨#[]⟩⟩ (Int.le_refl _) (by show(0:Int)≤1000000000;decide) (by show(0:Int)≤(N:Int);omega) (by show(N:Int)≤_;omega) (by show(0:Nat)≤1000000000;omega) (Rc.bare 1 0 0 1) none none 0 0 W (recR_nil (Rc.bare 1 0 0 1) W rfl rfl)
  exact h0)
 have hw1:IntKind.i64.wrap (1+(N:Int))=1+(N:Int):=IntWalk.i64_in _ (by omega)
 have hw2:IntKind.i64.wrap (4*(n:Int))=4*(n:Int):=IntWalk.i64_in _ (by omega)
 have hw3:IntKind.i64.wrap (1+(N:Int)+4*(n:Int))=((1+N+4*n:Nat):Int):=(IntWalk.i64_in _ (by omega)).trans (by omega)
 have HS:=Hq (show blankS N n k=⟨(N:Int),(n:Int),(k:Int),Lg.newD (1+N+4*n),(blankL N).1,0,[⟨1,(blankL N).2.1,(blankL N).2.1,false⟩],2⟩from rfl)
 generalize blankS N n k=S at HS ⊢
 have hdl:(Lg.newD (1+N+4*n)).left= -1∧(Lg.newD (1+N+4*n)).down=false:=⟨rfl,rfl⟩
 have HQ:=Hq (fun(w':World) (q:SP) (hp:PoolR w' S q (freeF k)) (hb:Below w.heap.size w w')=>show(fun(e:Ending) (w':World)=>∃ q:SP,e= .returned (storeV S q)∧PoolR w' S q (freeF k)∧Below w.heap.size w w') (.returned (storeV S q)) w' from⟨q,rfl,hp,hb⟩)
 generalize (fun(e:Ending) (w':World)=>∃ q:SP,e= .returned (storeV S q)∧PoolR w' S q (freeF k)∧Below w.heap.size w w')=Q at HQ ⊢
 generalize Lg.newD (1+N+4*n)=d at HDN HS hdl
 obtain⟨L,dl,dd⟩:=d
 simp only at hdl
 obtain⟨rfl,rfl⟩:=hdl
 generalize blankL N=a at HAP HS
 obtain⟨l,lsn,le⟩:=a
 simp only at HS
 generalize hM:((1+N+4*n:Nat):Int)=M at HDN hw3
 clear hM
 go_enter Tryz.func7,Tryz.ntmps7
 go_upto_region 1 with fail
 have H0:=nW2 w #[.int .i64 (N:Int),.int .i64 (n:Int),.int .i64 (k:Int)] 25 #[(),(),(),"s",(),false,(),(),(),(),"","s",(),"s",()] 36
 obtain⟨W0,hW0⟩:=exW H0
 rw[← hW0]at H0 ⊢
 clear hW0
 have hc0:=show W0.cell? ⟨w.heap.size,0,none⟩=some (.int .i64 (N:Int))from by rw[blkCell H0.out.get0];rfl
 have hc1:=show W0.cell? ⟨w.heap.size,1,none⟩=some (.int .i64 (n:Int))from by rw[blkCell H0.out.get0];rfl
 go_upto_region 2 with(first
  |(go_at_call 27;(refine(HDN.out _).mono ?_);rintro e w1 ⟨A,c,rfl,hdr,hdn,hb1⟩)
  |(with_reducible refine sN #[.slice A L.length c,.int .i64 (-1),false] ?_))
 have hb2:=hb1.trans ((allocB w1 (.cells #[.slice A L.length c,.int .i64 (-1),false] 28)).mono hb1.size)
 have H2:=Hq (H0.out.step hb2)
 have HG2:=Hq (heap_alloc_new w1 (.cells #[.slice A L.length c,.int .i64 (-1),false] 28))
 have HD2:=Hq (hdr.below (allocB w1 (.cells #[.slice A L.length c,.int .i64 (-1),false] 28)))
 have HN2:=Hq (hdn.below (allocB w1 (.cells #[.slice A L.length c,.int .i64 (-1),false] 28)))
 obtain⟨g1,hg1⟩:=ex w1.heap.size
 obtain⟨w2,hw2'⟩:=ex (w1.alloc (.cells #[.slice A L.length c,.int .i64 (-1),false] 28))
 rw[← hg1,← hw2']at HG2
 rw[← hw2']at H2 HD2 HN2
 rw[← hw2',← hg1]
 clear hw2' hg1 hb1 hb2 H0 hdr hdn hc0 hc1
 try simp only[Act.put]
 have hc2:=show w2.cell? ⟨w.heap.size,2,none⟩=some (.int .i64 (k:Int))from by rw[blkCell H2.out.get0];rfl
 go_upto_region 3 with(first
  |(go_at_call 28;(refine(HPN.out _).mono ?_);rintro e w3 ⟨fb,rfl,hfr,hfn,hb3⟩)
  |(with_reducible refine sN #[.slice (some ⟨fb,0,none⟩) k k,()] ?_))
 have hb4:=hb3.trans ((allocB w3 (.cells #[.slice (some ⟨fb,0,none⟩) k k,()] 33)).mono hb3.size)
 have H4:=Hq (H2.out.step hb4)
 have HG4:=Hq (blkOld HG2.out hb4)
 have HP4:=Hq (heap_alloc_new w3 (.cells #[.slice (some ⟨fb,0,none⟩) k k,()] 33))
 have HD4:=Hq (HD2.out.below hb4)
 have HN4:=Hq (HN2.out.below hb4)
 have HF4:=Hq (hfr.below (allocB w3 (.cells #[.slice (some ⟨fb,0,none⟩) k k,()] 33)))
 have HFN4:=Hq (hfn.below (allocB w3 (.cells #[.slice (some ⟨fb,0,none⟩) k k,()] 33)))
 obtain⟨g2,hg2⟩:=ex w3.heap.size
 obtain⟨w4,hw4'⟩:=ex (w3.alloc (.cells #[.slice (some ⟨fb,0,none⟩) k k,()] 33))
 rw[← hg2,← hw4']at HP4
 rw[← hw4']at H4 HG4 HD4 HN4 HF4 HFN4
 rw[← hw4',← hg2]
 clear hw4' hg2 hb3 hb4 H2 HG2 HD2 HN2 hfr hfn hc2 HDN HPN
 try simp only[Act.put]
 have hc0:=show w4.cell? ⟨w.heap.size,0,none⟩=some (.int .i64 (N:Int))from by rw[blkCell H4.out.get0];rfl
 go_upto_region 4 with(first
  |(go_at_call 30;(refine(HLN.out _).mono ?_);rintro e w5 ⟨rfl,hb5⟩)
  |(go_at_call 29;(refine(HAP.out _).mono ?_);rintro e w6 ⟨rfl,hb6⟩)
  |(with_reducible refine sN #[l.from_,l.n,l.end_,l.safe,l.tail] ?_))
 have hb7:=joinB hb5 (joinB hb6 (allocB w6 (.cells #[l.from_,l.n,l.end_,l.safe,l.tail] 30)))
 have H7:=Hq (H4.out.step hb7)
 have HG7:=Hq (blkOld HG4.out hb7)
 have HP7:=Hq (blkOld HP4.out hb7)
 have HL7:=Hq (heap_alloc_new w6 (.cells #[l.from_,l.n,l.end_,l.safe,l.tail] 30))
 have HD7:=Hq (HD4.out.below hb7)
 have HN7:=Hq (HN4.out.below hb7)
 have HF7:=Hq (HF4.out.below hb7)
 have HFN7:=Hq (HFN4.out.below hb7)
 obtain⟨g3,hg3⟩:=ex w6.heap.size
 obtain⟨w7,hw7'⟩:=ex (w6.alloc (.cells #[l.from_,l.n,l.end_,l.safe,l.tail] 30))
 rw[← hg3,← hw7']at HL7
 rw[← hw7']at H7 HG7 HP7 HD7 HN7 HF7 HFN7
 rw[← hw7',← hg3]
 clear hw7' hg3 hb5 hb6 hb7 H4 HG4 HP4 HD4 HN4 HF4 HFN4 hc0 HLN HAP
 try simp only[Act.put]
 have hbt:=allocB w7 (.cells #[.int .i64 1,lsn,lsn,false] 59)
 have H8:=Hq (H7.out.step hbt)
 have HT8:=Hq (heap_alloc_new w7 (.cells #[.int .i64 1,lsn,lsn,false] 59))
 have HG8:=Hq (blkOld HG7.out hbt)
 have HP8:=Hq (blkOld HP7.out hbt)
 have HL8:=Hq (blkOld HL7.out hbt)
 have HD8:=Hq (HD7.out.below hbt)
 have HN8:=Hq (HN7.out.below hbt)
 have HF8:=Hq (HF7.out.below hbt)
 have HFN8:=Hq (HFN7.out.below hbt)
 go_wp2_with (first
  |(with_reducible refine lL H7.out.get0 Tryz.underlying25 ?_)
  |(with_reducible refine lL HG7.out Tryz.underlying28 ?_)
  |(with_reducible refine lL HL7.out Tryz.underlying30 ?_)
  |(with_reducible refine lL HP7.out Tryz.underlying33 ?_)
  |(with_reducible refine lS (stA ⟨(N:Int),(n:Int),(k:Int),⟨L,-1,false⟩,l,0,[⟨1,lsn,lsn,false⟩],2⟩ ⟨A,c,some ⟨fb,0,none⟩,k,k,some ⟨w7.heap.size,0,none⟩,1⟩) H8.out.get1 ?_))
 refine bodyPost_ret (v:=.agg (stA ⟨(N:Int),(n:Int),(k:Int),⟨L,-1,false⟩,l,0,[⟨1,lsn,lsn,false⟩],2⟩ ⟨A,c,some ⟨fb,0,none⟩,k,k,some ⟨w7.heap.size,0,none⟩,1⟩)) (results_cell rfl _ _ rfl (load_whole (setRow_heap _ _ _ _ _ _ H8.out.get1) Tryz.underlying36 Kr Kr)) rfl ?_
 have hs:=HS.out
 subst hs
 have hp:PoolR (w7.alloc (.cells #[.int .i64 1,lsn,lsn,false] 59)) ⟨(N:Int),(n:Int),(k:Int),⟨L,-1,false⟩,l,0,[⟨1,lsn,lsn,false⟩],2⟩ ⟨A,c,some ⟨fb,0,none⟩,k,k,some ⟨w7.heap.size,0,none⟩,1⟩ (freeF k):=⟨⟨HD8.out,HN8.out.mono (Nat.zero_le _),reads_blk (T:=59) (by rw[HT8.out];rfl) (Nat.le_refl _),fun ad e=>by
  injection e with e
  subst e
  exact⟨Nat.zero_le _,_,_,HT8.out⟩⟩,(freeF_len k).symm,by rw[freeF_len];exact HF8.out,HFN8.out.mono (Nat.zero_le _)⟩
 exact HQ.out _ ⟨A,c,some ⟨fb,0,none⟩,k,k,some ⟨w7.heap.size,0,none⟩,1⟩ (hp.other (t:=36) H8.out.get1 (by decide) (by decide) (by decide) (stA ⟨(N:Int),(n:Int),(k:Int),⟨L,-1,false⟩,l,0,[⟨1,lsn,lsn,false⟩],2⟩ ⟨A,c,some ⟨fb,0,none⟩,k,k,some ⟨w7.heap.size,0,none⟩,1⟩)) (H8.out.row 1 (stA ⟨(N:Int),(n:Int),(k:Int),⟨L,-1,false⟩,l,0,[⟨1,lsn,lsn,false⟩],2⟩ ⟨A,c,some ⟨fb,0,none⟩,k,k,some ⟨w7.heap.size,0,none⟩,1⟩) _ rfl).below
end Go.Proofs.YtmfkhdhnbkambaaGreatDoor
