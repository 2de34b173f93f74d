import Derived.Test.YtilakddepaplhaaGreatHb00
import Derived.Test.YtilakddepaplhaaGreatHb16
import Derived.Test.YtilakddepaplhaaGreatHb18
import Derived.Test.YtilakddepaplhaaGreatHb17
import Derived.Test.YtilakddepaplhaaGreatHb13
import Derived.BigRegion
set_option maxRecDepth 100000
set_option maxHeartbeats 16000000
set_option linter.unusedSimpArgs false
namespace Ck
open Lg Rc
def chR:Rec:=⟨0,0,0,9,0,0,1,noOp,0,0,noKey,[],[]⟩
def fresh9:Tx.St:=⟨9,4,4,newD 26,⟨1,9,0,0,⟨#[]⟩⟩,0,[],1⟩
theorem check_len (lsn n:Int):(putR ⟨lsn,0,0,9,0,0,n,noOp,0,0,noKey,[],[]⟩).length=37:=by
 rw[putR_len]
 unfold bodyB
 rw[List.length_append,headB_len]
 have hr:restB ⟨lsn,0,0,9,0,0,n,noOp,0,0,noKey,[],[]⟩=listsB ⟨lsn,0,0,9,0,0,n,noOp,0,0,noKey,[],[]⟩:=by
  unfold restB
  simp
 rw[hr]
 unfold listsB
 simp[p_length]
theorem put_ok (base:Int)(all:List ByteArray):∀ (k:Nat) (d:Dk),d.down=false→d.left= -1→(∀ j,j<k→(all[j]?.getD ⟨#[]⟩).size=128)→0≤base→base+(k:Int)≤(d.sectors.length:Int)→
 ∃ d2,putAll base all k d=(d2,0)∧d2.down=false∧d2.left= -1∧d2.sectors.length=d.sectors.length:=by
 intro k
 induction k with
 |zero=>intro d h1 h2 _ _ _;exact⟨d,rfl,h1,h2,rfl⟩
 |succ k ih=>
  intro d h1 h2 h3 h4 h5
  have hw:writeD d (base+(k:Int)) (all[k]?.getD ⟨#[]⟩)=({d with sectors:=d.sectors.set (base+(k:Int)).toNat (all[k]?.getD ⟨#[]⟩),left:= -1},0):=by
   unfold writeD
   rw[if_neg (by rw[h1];decide),if_neg (fun hn=>hn ⟨⟨by omega,by omega⟩,h3 k (Nat.lt_succ_self k)⟩),if_neg (by rw[h2];decide),h2]
   rfl
  obtain⟨d2,e1,e2,e3,e4⟩:=ih {d with sectors:=d.sectors.set (base+(k:Int)).toNat (all[k]?.getD ⟨#[]⟩),left:= -1} h1 rfl (fun j hj=>h3 j (by omega)) h4 (by show base+(k:Int)≤((d.sectors.set (base+(k:Int)).toNat (all[k]?.getD ⟨#[]⟩)).length:Int);rw[List.length_set];omega)
  refine⟨d2,?_,e2,e3,?_⟩
  ·unfold putAll
   rw[hw,if_pos rfl]
   exact e1
  ·rw[e4]
   exact List.length_set
theorem set_ok {d:Dk}(n:Int)(h0:0≤n)(h1:n<1099511627776)(hd:d.down=false)(hl:d.left= -1)(hn:0<d.sectors.length):(setD d n).2=0:=by
 rw[setD_yes (by omega)]
 unfold writeD
 rw[if_neg (by rw[hd];decide),if_neg (fun hc=>hc ⟨⟨by decide,by omega⟩,sectorB_size n⟩),if_neg (by rw[hl];decide)]
theorem newD_len (n:Nat):(newD n).sectors.length=n:=by unfold newD;simp
theorem master_new:masterD (newD 26)=0:=by
 have hr:readD (newD 26) 0=(zero128,0):=by
  unfold readD
  rw[if_neg (by decide),if_pos ⟨by decide,by rw[newD_len];decide⟩]
  unfold secAt
  rfl
 unfold masterD
 rw[hr,if_neg (by rw[zero128_size];simp)]
 have hz:zero128.data.toList=List.replicate 128 0:=by unfold zero128;rfl
 rw[show(zero128,(0:Int)).1=zero128 from rfl,hz]
 unfold masterL
 have hg:Oct.getL (((List.replicate 128 (0:UInt8)).drop 4).take 6)=0:=by decide
 rw[hg]
 split<;>rfl
theorem awake_ck:∃ l1 d1 l2 d2 d3,appendD ⟨1,9,0,0,⟨#[]⟩⟩ chR=(l1,1,0)∧forceD (newD 26) l1=(d1,l2,0)∧setD d1 1=(d2,0)∧masterD d2=1∧setD (newD 26) 77=(d3,0)∧masterD d3=77∧
 d1.left= -1∧l2.end_=37∧l2.safe=37∧l1=⟨1,9,37,0,⟨(putR ⟨1,0,0,9,0,0,1,noOp,0,0,noKey,[],[]⟩).toArray⟩⟩∧l1.tail.size=37:=by
 have hR:Right ⟨1,0,0,9,0,0,1,noOp,0,0,noKey,[],[]⟩:=.check 1 0 0 1 [] [] ⟨by decide,by decide⟩ ⟨by decide,by decide⟩ ⟨by decide,by decide⟩ ⟨by decide,by decide⟩ ⟨by decide,by decide,(fun t ht=>by cases ht),(fun t ht=>by cases ht)⟩
 have hl:=check_len 1 1
 have e1:appendD ⟨1,9,0,0,⟨#[]⟩⟩ chR=(⟨1,9,37,0,⟨(putR ⟨1,0,0,9,0,0,1,noOp,0,0,noKey,[],[]⟩).toArray⟩⟩,1,0):=by
  have h:=append_okT (l:=⟨1,9,0,0,⟨#[]⟩⟩) (r:=chR) hR (by show ¬ (9:Int)*128-((putR ⟨1,0,0,9,0,0,1,noOp,0,0,noKey,[],[]⟩).length:Int)<0;rw[hl];decide)
  rw[h]
  show(({from_:=1,n:=9,end_:=(0:Int)+((putR ⟨1,0,0,9,0,0,1,noOp,0,0,noKey,[],[]⟩).length:Int),safe:=0,tail:=(⟨#[]⟩:ByteArray)++⟨(putR ⟨1,0,0,9,0,0,1,noOp,0,0,noKey,[],[]⟩).toArray⟩}:Lo),(1:Int),(0:Int))=_
  rw[hl]
  have ht:(⟨#[]⟩:ByteArray)++⟨(putR ⟨1,0,0,9,0,0,1,noOp,0,0,noKey,[],[]⟩).toArray⟩=⟨(putR ⟨1,0,0,9,0,0,1,noOp,0,0,noKey,[],[]⟩).toArray⟩:=by
   apply ByteArray.ext
   rw[ByteArray.data_append]
   simp
  rw[ht]
  rfl
 have hts:(⟨(putR ⟨1,0,0,9,0,0,1,noOp,0,0,noKey,[],[]⟩).toArray⟩:ByteArray).size=37:=by
  show(putR ⟨1,0,0,9,0,0,1,noOp,0,0,noKey,[],[]⟩).toArray.size=37
  rw[List.size_toArray,hl]
 generalize (⟨(putR ⟨1,0,0,9,0,0,1,noOp,0,0,noKey,[],[]⟩).toArray⟩:ByteArray)=t at e1 hts
 have hall:∀ b∈allS ⟨1,9,37,0,t⟩,b.size=128:=by
  unfold allS
  intro b hb
  split at hb
  ·rcases List.mem_append.1 hb with h|h
   ·exact cutB_size _ b h
   ·rw[List.mem_singleton.1 h];exact zero128_size
  ·exact cutB_size _ b hb
 have hal:(allS ⟨1,9,37,0,t⟩).length≤2:=by
  have hc:=cutB_length t
  rw[hts]at hc
  unfold allS
  split
  ·rw[List.length_append,List.length_singleton];show(cutB t).length+1≤2;omega
  ·show(cutB t).length≤2;omega
 have hfs:firstS ⟨1,9,37,0,t⟩=0:=by unfold firstS;show((37:Int)-(t.size:Int))/128=0;rw[hts];decide
 obtain⟨d1,p1,p2,p3,p4⟩:=put_ok (1+firstS ⟨1,9,37,0,t⟩) (allS ⟨1,9,37,0,t⟩) (allS ⟨1,9,37,0,t⟩).length (newD 26) rfl rfl (fun j hj=>by rw[List.getElem?_eq_getElem hj];exact hall _ (List.getElem_mem hj)) (by rw[hfs];decide) (by rw[hfs,newD_len];omega)
 have e2:forceD (newD 26) ⟨1,9,37,0,t⟩=(d1,forcedL ⟨1,9,37,0,t⟩,0):=by
  unfold forceD
  rw[if_neg (by show ¬ (0:Int)=37;decide)]
  simp only[p1]
  rw[if_pos trivial]
 have s1:=set_ok (d:=d1) 1 (by decide) (by decide) p2 p3 (by rw[p4,newD_len];decide)
 have s2:=set_ok (d:=newD 26) 77 (by decide) (by decide) rfl rfl (by rw[newD_len];decide)
 have m1:=(set_master s1).1
 have m2:=(set_master s2).1
 refine⟨_,d1,_,(setD d1 1).1,(setD (newD 26) 77).1,e1,e2,?_,m1,?_,m2,p3,rfl,rfl,rfl,hts⟩
 ·rw[← s1]
 ·rw[← s2]
end Ck
namespace Go.Proofs.YtilakddepaplhaaGreat
open Go.RowKit
def Fresh9Out (w:World)(e:Ending)(w':World):Prop:=
 ∃ p:SP,e= .returned (storeV Ck.fresh9 p)∧DiskR w' Ck.fresh9.disk p.A p.c∧NewT 0 w' 9 p.A∧p.fn=4∧Reads w' p.F p.fc 4 fr4∧Below w.heap.size w w'
theorem cfresh9_any (w:World):
 Calls Tryz.prog 8 #[.int .i64 9] w (Fresh9Out w):=by
 have HN:=Hq (fun W=>show Calls Tryz.prog 22 #[.int .i64 26] W (CNewOut (Lg.newD 26) W)from cnew_any 26 (by omega) (by omega) W)
 have HL:=Hq (fun W=>lnew_any 1 9 W)
 have HP:=Hq (fun W=>cpool_any W)
 have HF:=Hq (fun(A:Option Addr) (c bf:Nat) w' (hd:DiskR w' (Lg.newD 26) A c) (ht:NewT 0 w' 9 A) (hfr:Reads w' (some ⟨bf,0,none⟩) 4 4 fr4) (hb:Below w.heap.size w w')=>show Fresh9Out w (.returned (storeV Ck.fresh9 ⟨A,c,some ⟨bf,0,none⟩,4,4,none,0⟩)) w' from⟨_,rfl,hd,ht,rfl,hfr,hb⟩)
 generalize Fresh9Out w=Q at HF ⊢
 dsimp only[storeV,Ck.fresh9,List.length_nil]at HF
 generalize Lg.newD 26=d0 at HN HF
 go_enter Tryz.func8,Tryz.ntmps8
 go_upto_region 1 with fail
 have H0:=nW1 w #[(),(),(),"s",(),false,(),(),(),(),"","s",(),"s",()] 37
 obtain⟨W0,hW0⟩:=exW H0
 rw[← hW0]at H0 ⊢
 clear hW0
 go_upto_region 2 with(first
  |(go_at_call 22;(with_reducible refine(HN.out _).mono ?_);rintro e w1 ⟨A1,c1,rfl,hd1,ht1,hb1⟩;dsimp only[diskV])
  |(with_reducible refine sN #[.slice A1 d0.sectors.length c1,d0.left,d0.down] ?_))
 have H1:=Hq (H0.out.step (pastAlloc (o:=.cells #[.slice A1 d0.sectors.length c1,d0.left,d0.down] 29) hb1))
 have HG:=Hq (heap_alloc_new w1 (.cells #[.slice A1 d0.sectors.length c1,d0.left,d0.down] 29))
 have HD:=Hq (hd1.below (allocB w1 (.cells #[.slice A1 d0.sectors.length c1,d0.left,d0.down] 29)))
 have HT:=Hq ((ht1.mono (Nat.zero_le _)).below (allocB w1 (.cells #[.slice A1 d0.sectors.length c1,d0.left,d0.down] 29)))
 have hgd:=H0.out.lt (i:=0) (by simp)
 have hgd2:w.heap.size<w1.heap.size:=by have:=hb1.size;omega
 obtain⟨gd,hge⟩:=ex w1.heap.size
 obtain⟨W1,hW1⟩:=ex (w1.alloc (.cells #[.slice A1 d0.sectors.length c1,d0.left,d0.down] 29))
 rw[← hge]at HG hgd2
 rw[← hW1]at H1 HG HD HT
 rw[← hW1,← hge]
 clear hge hW1 hb1 hd1 ht1 H0 HN hgd
 go_upto_region 3 with(first
  |(go_at_call 23;(with_reducible refine(HP.out _).mono ?_);rintro e w2 ⟨bf,rfl,hfr,hbf,hb2⟩)
  |(with_reducible refine sN #[.slice (some ⟨bf,0,none⟩) 4 4,()] ?_))
 have H2:=Hq (H1.out.step (pastAlloc (o:=.cells #[.slice (some ⟨bf,0,none⟩) 4 4,()] 34) hb2))
 have HG2:=Hq (blkOld HG.out (pastAlloc (o:=.cells #[.slice (some ⟨bf,0,none⟩) 4 4,()] 34) hb2))
 have HQ:=Hq (heap_alloc_new w2 (.cells #[.slice (some ⟨bf,0,none⟩) 4 4,()] 34))
 have HD2:=Hq (HD.out.below (pastAlloc (o:=.cells #[.slice (some ⟨bf,0,none⟩) 4 4,()] 34) hb2))
 have HT2:=Hq (HT.out.below (pastAlloc (o:=.cells #[.slice (some ⟨bf,0,none⟩) 4 4,()] 34) hb2))
 have HFR:=Hq (hfr.below (allocB w2 (.cells #[.slice (some ⟨bf,0,none⟩) 4 4,()] 34)))
 have hgp:w.heap.size<w2.heap.size:=by have:=H1.out.lt (i:=0) (by simp);have:=hb2.size;omega
 have hbf2:w.heap.size<bf:=by have:=H1.out.lt (i:=0) (by simp);omega
 obtain⟨gp,hpe⟩:=ex w2.heap.size
 obtain⟨W2,hW2⟩:=ex (w2.alloc (.cells #[.slice (some ⟨bf,0,none⟩) 4 4,()] 34))
 rw[← hpe]at HQ hgp
 rw[← hW2]at H2 HG2 HQ HD2 HT2 HFR
 rw[← hW2,← hpe]
 clear hpe hW2 hb2 hfr hbf H1 HG HD HT HP
 have X0:=blkOld HG2.out (Below.refl _ W2).drew
 have Y0:=blkOld HQ.out (Below.refl _ W2).drew
 have K0:=H2.out.drew
 have E0:=HD2.out.below (Below.refl _ W2).drew
 have F0:=HT2.out.below (Below.refl _ W2).drew
 have R0:=HFR.out.below (Below.refl _ W2).drew
 refine rgH (S:=(fun u=>u.heap[gd]? =some (.cells #[.slice A1 d0.sectors.length c1,d0.left,d0.down] 29 (0,0))∧u.heap[gp]? =some (.cells #[.slice (some ⟨bf,0,none⟩) 4 4,()] 34 (0,0)))) (fun hHeld=>?_) (by first|exact hSn|exact⟨X0,Y0⟩)
 refine tkP 0 ?_;refine tkP 1 ?_
 refine tkL 2 Tryz.underlying29 ?_
 refine tkP 3 ?_
 refine tkL 5 Tryz.underlying34 ?_
 refine rdP 4 fun K hK=>?_
 go_simp
 refine(HL.out _).mono ?_;rintro e w5 ⟨rfl,hb5⟩;(try dsimp only[logV]);have X1:=blkOld X0 hb5;have Y1:=blkOld Y0 hb5;have K1:=K0.step hb5;have E1:=E0.below hb5;have F1:=F0.below hb5;have R1:=R0.below hb5;have hSn:=And.intro X1 Y1
 refine hKo hK (fun hHeld=>?_) (by first|exact hSn|exact⟨X0,Y0⟩)
 clear hK K
 refine tkP 6 ?_
 refine rdP 7 fun K hK=>?_
 refine wantedIf (by rfl) ?_
 refine sW #[.int .i64 9,.int .i64 4,.int .i64 4,.slice A1 d0.sectors.length c1,d0.left,d0.down,.int .i64 1,.int .i64 9,(),(),"",.slice (some ⟨bf,0,none⟩) 4 4,(),"s",.int .i64 1] K1.get0 ?_
 have K2:=K1.row 0 #[.int .i64 9,.int .i64 4,.int .i64 4,.slice A1 d0.sectors.length c1,d0.left,d0.down,.int .i64 1,.int .i64 9,(),(),"",.slice (some ⟨bf,0,none⟩) 4 4,(),"s",.int .i64 1] _ rfl
 simp only[Nat.add_zero]at K2
 have X2:=F1.readsRow E1.secs K1.get0 (by decide) #[.int .i64 9,.int .i64 4,.int .i64 4,.slice A1 d0.sectors.length c1,d0.left,d0.down,.int .i64 1,.int .i64 9,(),(),"",.slice (some ⟨bf,0,none⟩) 4 4,(),"s",.int .i64 1]
 have F2:=F1.row w.heap.size #[.int .i64 9,.int .i64 4,.int .i64 4,.slice A1 d0.sectors.length c1,d0.left,d0.down,.int .i64 1,.int .i64 9,(),(),"",.slice (some ⟨bf,0,none⟩) 4 4,(),"s",.int .i64 1]
 have R2:=R1.offRow w.heap.size #[.int .i64 9,.int .i64 4,.int .i64 4,.slice A1 d0.sectors.length c1,d0.left,d0.down,.int .i64 1,.int .i64 9,(),(),"",.slice (some ⟨bf,0,none⟩) 4 4,(),"s",.int .i64 1] (fun _ ad e=>by injection e with e;rw[← e];show bf≠w.heap.size;omega)
 have X3:=(heap_setRow_other w5 w.heap.size #[.int .i64 9,.int .i64 4,.int .i64 4,.slice A1 d0.sectors.length c1,d0.left,d0.down,.int .i64 1,.int .i64 9,(),(),"",.slice (some ⟨bf,0,none⟩) 4 4,(),"s",.int .i64 1] gd (by omega)).trans X1
 have Y3:=(heap_setRow_other w5 w.heap.size #[.int .i64 9,.int .i64 4,.int .i64 4,.slice A1 d0.sectors.length c1,d0.left,d0.down,.int .i64 1,.int .i64 9,(),(),"",.slice (some ⟨bf,0,none⟩) 4 4,(),"s",.int .i64 1] gp (by omega)).trans Y1
 try clear hSn
 have hSn:=And.intro X3 Y3
 refine hKo hK (fun hHeld=>?_) (by first|exact hSn|exact⟨X0,Y0⟩)
 clear hK K
 try simp only[Act.put]
 refine wpAnyH_done Kr ?_ _
 clear hHeld hSn
 go_wp2_with fail
 refine bodyPost_ret (v:=.agg #[.int .i64 9,.int .i64 4,.int .i64 4,.slice A1 d0.sectors.length c1,d0.left,d0.down,.int .i64 1,.int .i64 9,(),(),"",.slice (some ⟨bf,0,none⟩) 4 4,(),"s",.int .i64 1]) (results_cell rfl _ _ rfl (load_whole (setRow_heap _ _ _ _ _ _ K1.get0) Tryz.underlying37 Kr Kr)) rfl ?_
 exact HF.out A1 c1 bf _ ⟨X2,E1.small⟩ F2 R2 K2.below
def Take9Out (d2:Lg.Dk)(l2:Lg.Lo)(p:SP)(w:World)(e:Ending)(w':World):Prop:=
 ∃ A' c',e= .returned (.tuple #[storeV ⟨9,4,4,d2,l2,0,[],1⟩ {p with A:=A',c:=c'},()])∧DiskR w' d2 A' c'∧Below w.heap.size w w'
theorem ctake9_any (p:SP)(hf:p.fn=4)(l1 l2:Lg.Lo)(d1 d2:Lg.Dk)(e1:Lg.appendD ⟨1,9,0,0,⟨#[]⟩⟩ Ck.chR=(l1,1,0))(e2:Lg.forceD (Lg.newD 26) l1=(d1,l2,0))(e3:Ck.setD d1 1=(d2,0))
 (hl1:l1.from_=1∧l1.n=9∧l1.end_=37∧l1.tail.size=37) (hd1:d1.left= -1) (w:World) (h:DiskR w (Lg.newD 26) p.A p.c) (ht:NewT 0 w 9 p.A) (hr:Reads w p.F p.fc 4 fr4):
 Calls Tryz.prog 10 #[storeV Ck.fresh9 p] w (Take9Out d2 l2 p w):=by
 obtain⟨k1,k2,k3,k4⟩:=hl1
 have HAPP:=Hq (fun(TA:Option Addr) (tc:Nat) W=>show Calls Tryz.prog 30 #[logV ⟨1,9,0,0,⟨#[]⟩⟩,.agg (rcA 0 0 0 9 0 0 1 0 0 ⟨#[]⟩ ⟨#[]⟩ 0 0 ⟨#[]⟩ 0 0 (.slice TA 0 tc) (.slice none 0 0))] W (AppOut (l1,1,0) W)from by
  have h9:=append_any ⟨1,9,0,0,⟨#[]⟩⟩ (by decide) (by decide) (by decide) (by decide) (by decide) Ck.chR TA none tc 0 W ⟨Reads.none_ _ _ _ _,Reads.none_ _ _ _ _,by decide,by decide⟩
  rw[e1]at h9
  exact h9)
 have HFO:=Hq (fun A c W (hd:DiskR W (Lg.newD 26) A c)=>show Calls Tryz.prog 31 #[diskV (Lg.newD 26) A c,logV l1] W (ForceOut (d1,l2,0) A W)from by
  have h9:=force_any (Lg.newD 26) (by decide) A c l1 (by rw[k3];decide) (by rw[k3];decide) (by rw[k2];decide) (by rw[k2];decide) (by rw[k1];decide) (by rw[k1];decide) (by rw[k4];decide) (by rw[k3,k4];decide) (by rw[k3,k4];decide) W hd
  rw[e2]at h9
  exact h9)
 have HSE:=Hq (fun A c W (hd:DiskR W d1 A c)=>show Calls Tryz.prog 21 #[diskV d1 A c,.int .i64 1] W (WriteOut (d2,0) A W)from by
  have h9:=cset_any d1 (by rw[hd1];decide) A c 1 W hd
  rw[e3]at h9
  exact h9)
 have HDI:=Hq (fun W (hb:Below w.heap.size w W)=>cdirty_any Ck.fresh9 p hf W (hr.below hb))
 have HK0:=Hq (show DkR w.heap.size w (Lg.newD 26) p.A p.A p.c from⟨h,ht,.inl rfl⟩)
 have HM:=Hq (fun A' c' w' (h1:DiskR w' d2 A' c') (h2:Below w.heap.size w w')=>show Take9Out d2 l2 p w (.returned (.tuple #[storeV ⟨9,4,4,d2,l2,0,[],1⟩ {p with A:=A',c:=c'},()])) w' from⟨A',c',rfl,h1,h2⟩)
 generalize Take9Out d2 l2 p w=Q at HM ⊢
 clear e1 e2 e3 k1 k2 k3 k4 hd1 h ht hr
 obtain⟨A,c,F,fn,fc,TA,tc⟩:=p
 simp only at hf
 subst hf
 have HAP:=Hq (fun W=>HAPP.out TA tc W)
 clear HAPP
 dsimp only[storeV,Ck.fresh9,logV,diskV,List.length_nil]at HM HDI HAP HFO HSE HK0 ⊢
 generalize Lg.newD 26=d0 at HFO HDI HK0 ⊢
 go_enter Tryz.func10,Tryz.ntmps10
 go_upto_region 1 with fail
 have H0:=nW2 w #[.int .i64 9,.int .i64 4,.int .i64 4,.slice A d0.sectors.length c,d0.left,d0.down,.int .i64 1,.int .i64 9,(),(),"",.slice F 4 fc,(),.slice TA 0 tc,.int .i64 1] 37 #[(),(),(),"s",(),false,(),(),(),(),"","s",(),"s",()] 37
 obtain⟨W0,hW0⟩:=exW H0
 rw[← hW0]at H0 ⊢
 clear hW0
 go_cut [4,5,6] (fun x y z wc=>∃ gl:Nat,x= .pointer (some ⟨gl,0,none⟩)∧y= .int .i64 1∧z= .int .i64 0∧BxL w.heap.size w [(#[.int .i64 9,.int .i64 4,.int .i64 4,.slice A d0.sectors.length c,d0.left,d0.down,.int .i64 1,.int .i64 9,(),(),"",.slice F 4 fc,(),.slice TA 0 tc,.int .i64 1],37),(#[(),(),(),"s",(),false,(),(),(),(),"","s",(),"s",()],37)] wc∧wc.heap[gl]? =some (.cells #[l1.from_,l1.n,l1.end_,l1.safe,l1.tail] 31 (0,0)))
 case first=>
  have HB:=Hq H0.out.drew
  clear H0 HM HFO HSE HK0
  refine rgH (S:=(fun u=>u.heap[w.heap.size]? =some (.cells #[.int .i64 9,.int .i64 4,.int .i64 4,.slice A d0.sectors.length c,d0.left,d0.down,.int .i64 1,.int .i64 9,(),(),"",.slice F 4 fc,(),.slice TA 0 tc,.int .i64 1] 37 (0,0)))) (fun hHeld=>?_) (HB.out.get0)
  refine tkP 0 ?_
  refine tkV 1 (some 9) (v:=.agg #[.int .i64 1,.int .i64 9,(),(),""]) rfl (yieldsIf_load_mid (by rfl) 31 (.tmp 8) rfl w.heap.size 6 (by rfl) #[.int .i64 1,.int .i64 9,.int .i64 0,.int .i64 0,.string ⟨#[]⟩].toList _ (fun u hu=>(by intro j v hj;rw[blkCell hu];rcases j with _|_|_|_|_|j<;>first|(simp at hj;done)|(simpa using hj))) Tryz.underlying31 Kr Kr) ?_
  try simp only[Act.put,pS]
  refine tkP 2 ?_;refine tkP 3 ?_
  refine tkL 4 Tryz.underlying37 ?_
  refine tkP 6 ?_;refine tkP 7 ?_
  refine wpAnyH_ready (rs:=[5,14]) Kr (by simp) ?_
  refine(AllReadyH.cons (o:={dst:=some 13,op:=_,type:=_,pos:=_,after:=_,guard:=_}) rfl (fun K hK=>?_) (AllReadyH.cons (o:={dst:=some 4,op:=_,type:=_,pos:=_,after:=_,guard:=_}) rfl (fun K hK=>?_) AllReadyH.nil))
  ·
   go_simp
   refine(HDI.out _ HB.out.below).mono ?_;rintro e wd ⟨rfl,hb5⟩;have HB:=Hq (HB.out.step hb5);clear hb5;(try clear hSn);have hSn:=HB.out.get0
   refine hKo hK (fun hHeld=>?_)
   clear hK K
   refine tkP 8 ?_
   refine wpAnyH_ready (rs:=[9,14]) Kr (by simp) ?_
   refine(AllReadyH.cons (o:={dst:=some 17,op:=_,type:=_,pos:=_,after:=_,guard:=_}) rfl (fun K hK=>?_) (AllReadyH.cons (o:={dst:=some 4,op:=_,type:=_,pos:=_,after:=_,guard:=_}) rfl (fun K hK=>?_) AllReadyH.nil))
   ·
    go_simp
    refine(HAP.out _).mono ?_;rintro e wa ⟨he,hb5⟩;(try dsimp only[logV]at he);subst he;have HB:=Hq (HB.out.step hb5);clear hb5;(try clear hSn);have hSn:=HB.out.get0
    refine hKo hK (fun hHeld=>?_)
    clear hK K
    refine tkP 10 ?_;refine tkP 11 ?_;refine tkP 12 ?_;refine tkP 13 ?_
    refine rdP 14 fun K hK=>?_
    go_simp
    have hg4:w.heap.size+2≤wa.heap.size:=HB.out.lt (i:=1) (by simp);have HB:=Hq (HB.out.step (allocB wa (.cells #[(),(),(),(),""] 31)));have HG:=Hq (heap_alloc_new wa (.cells #[(),(),(),(),""] 31));(try clear hSn);have hSn:=HB.out.get0
    refine hKo hK (fun hHeld=>?_)
    clear hK K
    refine rdP 15 fun K hK=>?_
    refine wantedIf (by rfl) ?_
    refine sW #[l1.from_,l1.n,l1.end_,l1.safe,l1.tail] HG.out ?_
    have HB:=Hq (HB.out.under (M:=wa.heap.size) (by show w.heap.size+2≤_;exact hg4) (below_setRow (Below.refl wa.heap.size (wa.alloc (.cells #[(),(),(),(),""] 31))) (Nat.le_refl wa.heap.size) #[l1.from_,l1.n,l1.end_,l1.safe,l1.tail]))
    have HG:=Hq (show((wa.alloc (.cells #[(),(),(),(),""] 31)).setRow wa.heap.size #[l1.from_,l1.n,l1.end_,l1.safe,l1.tail]).heap[wa.heap.size]? =some (.cells #[l1.from_,l1.n,l1.end_,l1.safe,l1.tail] 31 (0,0))from setRow_heap _ _ _ _ _ _ HG.out)
    (try clear hSn);have hSn:=HB.out.get0
    refine hKo hK (fun hHeld=>?_)
    clear hK K
    try simp only[Act.put]
    refine tkP 16 ?_;refine tkP 17 ?_
    refine wpAnyH_done Kr ?_ _
    clear hHeld hSn
    go_wp2_with fail
    go_meet
    case rel=>exact⟨_,rfl,rfl,rfl,HB.out,HG.out⟩
   ·
    go_simp
    have hg4:w.heap.size+2≤wd.heap.size:=HB.out.lt (i:=1) (by simp);have HB:=Hq (HB.out.step (allocB wd (.cells #[(),(),(),(),""] 31)));have HG:=Hq (heap_alloc_new wd (.cells #[(),(),(),(),""] 31));(try clear hSn);have hSn:=HB.out.get0
    refine hKo hK (fun hHeld=>?_)
    clear hK K
    refine rdP 9 fun K hK=>?_
    go_simp
    refine(HAP.out _).mono ?_;rintro e wa ⟨he,hb5⟩;(try dsimp only[logV]at he);subst he;have HB:=Hq (HB.out.step hb5);have HG:=Hq (blkOld HG.out hb5);clear hb5;(try clear hSn);have hSn:=HB.out.get0
    refine hKo hK (fun hHeld=>?_)
    clear hK K
    refine tkP 10 ?_;refine tkP 11 ?_;refine tkP 12 ?_;refine tkP 13 ?_
    refine rdP 15 fun K hK=>?_
    refine wantedIf (by rfl) ?_
    refine sW #[l1.from_,l1.n,l1.end_,l1.safe,l1.tail] HG.out ?_
    have HB:=Hq (HB.out.under (M:=wd.heap.size) (by show w.heap.size+2≤_;exact hg4) (below_setRow (Below.refl wd.heap.size wa) (Nat.le_refl wd.heap.size) #[l1.from_,l1.n,l1.end_,l1.safe,l1.tail]))
    have HG:=Hq (show(wa.setRow wd.heap.size #[l1.from_,l1.n,l1.end_,l1.safe,l1.tail]).heap[wd.heap.size]? =some (.cells #[l1.from_,l1.n,l1.end_,l1.safe,l1.tail] 31 (0,0))from setRow_heap _ _ _ _ _ _ HG.out)
    (try clear hSn);have hSn:=HB.out.get0
    refine hKo hK (fun hHeld=>?_)
    clear hK K
    try simp only[Act.put]
    refine tkP 16 ?_;refine tkP 17 ?_
    refine wpAnyH_done Kr ?_ _
    clear hHeld hSn
    go_wp2_with fail
    go_meet
    case rel=>exact⟨_,rfl,rfl,rfl,HB.out,HG.out⟩
  ·
   go_simp
   have hg4:w.heap.size+2≤W0.drew.heap.size:=HB.out.lt (i:=1) (by simp);have HB:=Hq (HB.out.step (allocB W0.drew (.cells #[(),(),(),(),""] 31)));have HG:=Hq (heap_alloc_new W0.drew (.cells #[(),(),(),(),""] 31));(try clear hSn);have hSn:=HB.out.get0
   refine hKo hK (fun hHeld=>?_)
   clear hK K
   refine rdP 5 fun K hK=>?_
   go_simp
   refine(HDI.out _ HB.out.below).mono ?_;rintro e wd ⟨rfl,hb5⟩;have HB:=Hq (HB.out.step hb5);have HG:=Hq (blkOld HG.out hb5);clear hb5;(try clear hSn);have hSn:=HB.out.get0
   refine hKo hK (fun hHeld=>?_)
   clear hK K
   refine tkP 8 ?_
   refine rdP 9 fun K hK=>?_
   go_simp
   refine(HAP.out _).mono ?_;rintro e wa ⟨he,hb5⟩;(try dsimp only[logV]at he);subst he;have HB:=Hq (HB.out.step hb5);have HG:=Hq (blkOld HG.out hb5);clear hb5;(try clear hSn);have hSn:=HB.out.get0
   refine hKo hK (fun hHeld=>?_)
   clear hK K
   refine tkP 10 ?_;refine tkP 11 ?_;refine tkP 12 ?_;refine tkP 13 ?_
   refine rdP 15 fun K hK=>?_
   refine wantedIf (by rfl) ?_
   refine sW #[l1.from_,l1.n,l1.end_,l1.safe,l1.tail] HG.out ?_
   have HB:=Hq (HB.out.under (M:=W0.drew.heap.size) (by show w.heap.size+2≤_;exact hg4) (below_setRow (Below.refl W0.drew.heap.size wa) (Nat.le_refl W0.drew.heap.size) #[l1.from_,l1.n,l1.end_,l1.safe,l1.tail]))
   have HG:=Hq (show(wa.setRow W0.drew.heap.size #[l1.from_,l1.n,l1.end_,l1.safe,l1.tail]).heap[W0.drew.heap.size]? =some (.cells #[l1.from_,l1.n,l1.end_,l1.safe,l1.tail] 31 (0,0))from setRow_heap _ _ _ _ _ _ HG.out)
   (try clear hSn);have hSn:=HB.out.get0
   refine hKo hK (fun hHeld=>?_)
   clear hK K
   try simp only[Act.put]
   refine tkP 16 ?_;refine tkP 17 ?_
   refine wpAnyH_done Kr ?_ _
   clear hHeld hSn
   go_wp2_with fail
   go_meet
   case rel=>exact⟨_,rfl,rfl,rfl,HB.out,HG.out⟩
 case rest=>
 obtain⟨gl,rfl,rfl,rfl,hb7,hg7⟩:=hcut
 obtain⟨W7,rfl⟩:=ex wc
 have H7:=Hq hb7
 have HG:=Hq hg7
 clear hb7 hg7 H0 HDI HAP
 go_upto_region 5 with(first
  |(with_reducible refine lL HG.out Tryz.underlying31 ?_)
  |(with_reducible refine lU #[l1.from_,l1.n,l1.end_,l1.safe,l1.tail] #[.int .i64 9,.int .i64 4,.int .i64 4,.slice A d0.sectors.length c,d0.left,d0.down,l1.from_,l1.n,l1.end_,l1.safe,l1.tail,.slice F 4 fc,(),.slice TA 0 tc,.int .i64 1] H7.out.get0 ?_))
 have HK7:=Hq ((HK0.out.below H7.out.below).row H7.out.get0 (by decide) #[.int .i64 9,.int .i64 4,.int .i64 4,.slice A d0.sectors.length c,d0.left,d0.down,l1.from_,l1.n,l1.end_,l1.safe,l1.tail,.slice F 4 fc,(),.slice TA 0 tc,.int .i64 1])
 have H8:=Hq (H7.out.row 0 #[.int .i64 9,.int .i64 4,.int .i64 4,.slice A d0.sectors.length c,d0.left,d0.down,l1.from_,l1.n,l1.end_,l1.safe,l1.tail,.slice F 4 fc,(),.slice TA 0 tc,.int .i64 1] _ rfl)
 simp only[Nat.add_zero]at H8
 obtain⟨W8,hW8⟩:=ex (W7.setRow w.heap.size #[.int .i64 9,.int .i64 4,.int .i64 4,.slice A d0.sectors.length c,d0.left,d0.down,l1.from_,l1.n,l1.end_,l1.safe,l1.tail,.slice F 4 fc,(),.slice TA 0 tc,.int .i64 1])
 rw[← hW8]at H8 HK7
 rw[← hW8]
 clear hW8 H7 HG HK0
 have HFF:=Hq (HFO.out A c W8 HK7.out.dk)
 go_upto_region 6 with(first
  |(with_reducible refine lP #[.slice A d0.sectors.length c,d0.left,d0.down] H8.out.get0 Tryz.underlying29 ?_)
  |(with_reducible refine lP #[l1.from_,l1.n,l1.end_,l1.safe,l1.tail] H8.out.get0 Tryz.underlying31 ?_)
  |(go_at_call 31;(with_reducible refine HFF.out.mono ?_);rintro e w9 ⟨A3,c3,he,hd9,ht9,hb9⟩;(try dsimp only[diskV,logV]at he);subst he;have H9:=Hq (H8.out.step hb9);have HX9:=Hq (setRow_heap w9 w.heap.size _ #[.int .i64 9,.int .i64 4,.int .i64 4,.slice A3 d1.sectors.length c3,d1.left,d1.down,l1.from_,l1.n,l1.end_,l1.safe,l1.tail,.slice F 4 fc,(),.slice TA 0 tc,.int .i64 1] _ _ H9.out.get0))
  |(with_reducible refine lU #[.slice A3 d1.sectors.length c3,d1.left,d1.down] #[.int .i64 9,.int .i64 4,.int .i64 4,.slice A3 d1.sectors.length c3,d1.left,d1.down,l1.from_,l1.n,l1.end_,l1.safe,l1.tail,.slice F 4 fc,(),.slice TA 0 tc,.int .i64 1] H9.out.get0 ?_)
  |(with_reducible refine lU #[l2.from_,l2.n,l2.end_,l2.safe,l2.tail] #[.int .i64 9,.int .i64 4,.int .i64 4,.slice A3 d1.sectors.length c3,d1.left,d1.down,l2.from_,l2.n,l2.end_,l2.safe,l2.tail,.slice F 4 fc,(),.slice TA 0 tc,.int .i64 1] HX9.out ?_))
 have HK9:=Hq (HK7.out.put (by have:=H8.out.lt (i:=0) (by simp);omega) hd9 ht9 hb9)
 have HK10:=Hq ((HK9.out.row H9.out.get0 (by decide) #[.int .i64 9,.int .i64 4,.int .i64 4,.slice A3 d1.sectors.length c3,d1.left,d1.down,l1.from_,l1.n,l1.end_,l1.safe,l1.tail,.slice F 4 fc,(),.slice TA 0 tc,.int .i64 1]).row HX9.out (by decide) #[.int .i64 9,.int .i64 4,.int .i64 4,.slice A3 d1.sectors.length c3,d1.left,d1.down,l2.from_,l2.n,l2.end_,l2.safe,l2.tail,.slice F 4 fc,(),.slice TA 0 tc,.int .i64 1])
 have H10a:=H9.out.row 0 #[.int .i64 9,.int .i64 4,.int .i64 4,.slice A3 d1.sectors.length c3,d1.left,d1.down,l1.from_,l1.n,l1.end_,l1.safe,l1.tail,.slice F 4 fc,(),.slice TA 0 tc,.int .i64 1] _ rfl
 simp only[Nat.add_zero]at H10a
 have H10b:=H10a.row 0 #[.int .i64 9,.int .i64 4,.int .i64 4,.slice A3 d1.sectors.length c3,d1.left,d1.down,l2.from_,l2.n,l2.end_,l2.safe,l2.tail,.slice F 4 fc,(),.slice TA 0 tc,.int .i64 1] _ rfl
 simp only[Nat.add_zero]at H10b
 have H10:=Hq (show BxL w.heap.size w [(#[.int .i64 9,.int .i64 4,.int .i64 4,.slice A3 d1.sectors.length c3,d1.left,d1.down,l2.from_,l2.n,l2.end_,l2.safe,l2.tail,.slice F 4 fc,(),.slice TA 0 tc,.int .i64 1],37),(#[(),(),(),"s",(),false,(),(),(),(),"","s",(),"s",()],37)] _ from H10b)
 obtain⟨W10,hW10⟩:=ex ((w9.setRow w.heap.size #[.int .i64 9,.int .i64 4,.int .i64 4,.slice A3 d1.sectors.length c3,d1.left,d1.down,l1.from_,l1.n,l1.end_,l1.safe,l1.tail,.slice F 4 fc,(),.slice TA 0 tc,.int .i64 1]).setRow w.heap.size #[.int .i64 9,.int .i64 4,.int .i64 4,.slice A3 d1.sectors.length c3,d1.left,d1.down,l2.from_,l2.n,l2.end_,l2.safe,l2.tail,.slice F 4 fc,(),.slice TA 0 tc,.int .i64 1])
 rw[← hW10]at H10 HK10
 rw[← hW10]
 clear hW10 H10a H10b H9 HX9 H8 HK7 HK9 hd9 ht9 hb9 HFF HFO
 have HSS:=Hq (HSE.out A3 c3 W10 HK10.out.dk)
 go_upto_region 8 with(first
  |(with_reducible refine lP #[.slice A3 d1.sectors.length c3,d1.left,d1.down] H10.out.get0 Tryz.underlying29 ?_)
  |(go_at_call 21;(with_reducible refine HSS.out.mono ?_);rintro e w11 ⟨A4,c4,he,hd11,ht11,hb11⟩;(try dsimp only[diskV]at he);subst he;have H11:=Hq (H10.out.step hb11))
  |(with_reducible refine lU #[.slice A4 d2.sectors.length c4,d2.left,d2.down] #[.int .i64 9,.int .i64 4,.int .i64 4,.slice A4 d2.sectors.length c4,d2.left,d2.down,l2.from_,l2.n,l2.end_,l2.safe,l2.tail,.slice F 4 fc,(),.slice TA 0 tc,.int .i64 1] H11.out.get0 ?_))
 have HK11:=Hq (HK10.out.put (by have:=H10.out.lt (i:=0) (by simp);omega) hd11 ht11 hb11)
 have HK12:=Hq (HK11.out.row H11.out.get0 (by decide) #[.int .i64 9,.int .i64 4,.int .i64 4,.slice A4 d2.sectors.length c4,d2.left,d2.down,l2.from_,l2.n,l2.end_,l2.safe,l2.tail,.slice F 4 fc,(),.slice TA 0 tc,.int .i64 1])
 have H12:=Hq (H11.out.row 0 #[.int .i64 9,.int .i64 4,.int .i64 4,.slice A4 d2.sectors.length c4,d2.left,d2.down,l2.from_,l2.n,l2.end_,l2.safe,l2.tail,.slice F 4 fc,(),.slice TA 0 tc,.int .i64 1] _ rfl)
 simp only[Nat.add_zero]at H12
 obtain⟨W12,hW12⟩:=ex (w11.setRow w.heap.size #[.int .i64 9,.int .i64 4,.int .i64 4,.slice A4 d2.sectors.length c4,d2.left,d2.down,l2.from_,l2.n,l2.end_,l2.safe,l2.tail,.slice F 4 fc,(),.slice TA 0 tc,.int .i64 1])
 rw[← hW12]at H12 HK12
 rw[← hW12]
 clear hW12 H11 H10 HK11 HK10 hd11 ht11 hb11 HSS HSE
 go_wp2_with (first
  |(with_reducible refine lL H12.out.get0 Tryz.underlying37 ?_)
  |(with_reducible refine lS #[.int .i64 9,.int .i64 4,.int .i64 4,.slice A4 d2.sectors.length c4,d2.left,d2.down,l2.from_,l2.n,l2.end_,l2.safe,l2.tail,.slice F 4 fc,(),.slice TA 0 tc,.int .i64 1] H12.out.get1 ?_))
 refine bodyPost_ret (v:=.tuple #[.agg #[.int .i64 9,.int .i64 4,.int .i64 4,.slice A4 d2.sectors.length c4,d2.left,d2.down,l2.from_,l2.n,l2.end_,l2.safe,l2.tail,.slice F 4 fc,(),.slice TA 0 tc,.int .i64 1],()]) (results_cell2 rfl _ _ rfl (load_whole (setRow_heap _ _ _ _ _ _ H12.out.get1) Tryz.underlying37 Kr Kr) rfl) rfl ?_
 exact HM.out A4 c4 _ (HK12.out.row H12.out.get1 (by decide) _).dk ((H12.out.row 1 _ _ rfl).below)
theorem cawake_any (w:World):Calls Tryz.prog 7 #[] w fun e w'=>e= .returned (.bool true)∧Below w.heap.size w w':=by
 obtain⟨l1,d1,l2,d2,d3,e1,e2,e3,m2,e4,m3,k1,k2,k3,k4,k5⟩:=Ck.awake_ck
 have HFR:=Hq (fun W=>cfresh9_any W)
 have HTK:=Hq (fun p (hf:p.fn=4) W h ht hr=>ctake9_any p hf l1 l2 d1 d2 e1 e2 e3 ⟨by rw[k4],by rw[k4],by rw[k4],k5⟩ k1 W h ht hr)
 have HS1:=Hq (fun A c W (hd:DiskR W (Lg.newD 26) A c)=>show Calls Tryz.prog 21 #[diskV (Lg.newD 26) A c,.int .i64 77] W (WriteOut (d3,0) A W)from by
  have h9:=cset_any (Lg.newD 26) (by decide) A c 77 W hd
  rw[e4]at h9
  exact h9)
 have HS2:=Hq (fun A c W (hd:DiskR W (Lg.newD 26) A c)=>show Calls Tryz.prog 21 #[diskV (Lg.newD 26) A c,.int .i64 (-1)] W (WriteOut (Lg.newD 26,1) A W)from by
  have h9:=cset_any (Lg.newD 26) (by decide) A c (-1) W hd
  rw[Ck.setD_no (.inl (by decide))]at h9
  exact h9)
 have HM0:=Hq (fun A c W (hd:DiskR W (Lg.newD 26) A c)=>show Calls Tryz.prog 13 #[diskV (Lg.newD 26) A c] W fun e w'=>e= .returned (.int .i64 0)∧Below W.heap.size W w' from by
  have h9:=cmaster_any (Lg.newD 26) A c W hd
  rw[Ck.master_new]at h9
  exact h9)
 have HM2:=Hq (fun A c W (hd:DiskR W d2 A c)=>show Calls Tryz.prog 13 #[diskV d2 A c] W fun e w'=>e= .returned (.int .i64 1)∧Below W.heap.size W w' from by
  have h9:=cmaster_any d2 A c W hd
  rw[m2]at h9
  exact h9)
 have HM3:=Hq (fun A c W (hd:DiskR W d3 A c)=>show Calls Tryz.prog 13 #[diskV d3 A c] W fun e w'=>e= .returned (.int .i64 77)∧Below W.heap.size W w' from by
  have h9:=cmaster_any d3 A c W hd
  rw[m3]at h9
  exact h9)
 have HK2:=Hq k2
 have HK3:=Hq k3
 clear e1 e2 e3 m2 e4 m3 k1 k2 k3 k4 k5
 dsimp only[diskV]at HS1 HS2 HM0 HM2 HM3
 go_enter Tryz.func7,Tryz.ntmps7
 go_upto_region 2 with(first
  |(go_at_call 8;(with_reducible refine(HFR.out _).mono ?_);rintro e w1 ⟨p,rfl,hd1,ht1,hf1,hr1,hb1⟩;obtain⟨A,c,F,fn,fc,TA,tc⟩:=p;simp only at hd1 ht1 hf1 hr1;subst hf1;(try dsimp only[storeV,Ck.fresh9,List.length_nil]))
  |(with_reducible refine sN #[.int .i64 9,.int .i64 4,.int .i64 4,.slice A (Lg.newD 26).sectors.length c,.int .i64 (Lg.newD 26).left,.bool (Lg.newD 26).down,.int .i64 1,.int .i64 9,(),(),"",.slice F 4 fc,(),.slice TA 0 tc,.int .i64 1] ?_))
 have HTT:=Hq (fun W=>HTK.out ⟨A,c,F,4,fc,TA,tc⟩ rfl W)
 clear HTK HFR
 dsimp only[Take9Out,storeV,Ck.fresh9,List.length_nil]at HTT
 have X1:=Hq (heap_alloc_new w1 (.cells #[.int .i64 9,.int .i64 4,.int .i64 4,.slice A (Lg.newD 26).sectors.length c,.int .i64 (Lg.newD 26).left,.bool (Lg.newD 26).down,.int .i64 1,.int .i64 9,(),(),"",.slice F 4 fc,(),.slice TA 0 tc,.int .i64 1] 37))
 have B1:=Hq (pastAlloc (o:=.cells #[.int .i64 9,.int .i64 4,.int .i64 4,.slice A (Lg.newD 26).sectors.length c,.int .i64 (Lg.newD 26).left,.bool (Lg.newD 26).down,.int .i64 1,.int .i64 9,(),(),"",.slice F 4 fc,(),.slice TA 0 tc,.int .i64 1] 37) hb1)
 have D1:=Hq (show DiskR _ (Lg.newD 26) A c from hd1.below (allocB w1 (.cells #[.int .i64 9,.int .i64 4,.int .i64 4,.slice A (Lg.newD 26).sectors.length c,.int .i64 (Lg.newD 26).left,.bool (Lg.newD 26).down,.int .i64 1,.int .i64 9,(),(),"",.slice F 4 fc,(),.slice TA 0 tc,.int .i64 1] 37)))
 have T1:=Hq (ht1.below (allocB w1 (.cells #[.int .i64 9,.int .i64 4,.int .i64 4,.slice A (Lg.newD 26).sectors.length c,.int .i64 (Lg.newD 26).left,.bool (Lg.newD 26).down,.int .i64 1,.int .i64 9,(),(),"",.slice F 4 fc,(),.slice TA 0 tc,.int .i64 1] 37)))
 have R1:=Hq (hr1.below (allocB w1 (.cells #[.int .i64 9,.int .i64 4,.int .i64 4,.slice A (Lg.newD 26).sectors.length c,.int .i64 (Lg.newD 26).left,.bool (Lg.newD 26).down,.int .i64 1,.int .i64 9,(),(),"",.slice F 4 fc,(),.slice TA 0 tc,.int .i64 1] 37)))
 obtain⟨gs,hgs⟩:=ex w1.heap.size
 obtain⟨W1,hW1⟩:=ex (w1.alloc (.cells #[.int .i64 9,.int .i64 4,.int .i64 4,.slice A (Lg.newD 26).sectors.length c,.int .i64 (Lg.newD 26).left,.bool (Lg.newD 26).down,.int .i64 1,.int .i64 9,(),(),"",.slice F 4 fc,(),.slice TA 0 tc,.int .i64 1] 37))
 rw[← hgs]at X1
 rw[← hW1]at X1 B1 D1 T1 R1
 rw[← hW1,← hgs]
 clear hgs hW1 hb1 hd1 ht1 hr1
 have HTW:=Hq (HTT.out W1 D1.out T1.out R1.out)
 clear HTT T1 R1
 generalize Lg.newD 26=d0 at HS1 HS2 HM0 X1 D1 HTW ⊢
 go_upto_region 3 with(first
  |(with_reducible refine lL X1.out Tryz.underlying37 ?_)
  |(go_at_call 10;(with_reducible refine HTW.out.mono ?_);rintro e w2 ⟨A2,c2,rfl,hd2,hb2⟩)
  |(with_reducible refine sN #[.int .i64 9,.int .i64 4,.int .i64 4,.slice A2 d2.sectors.length c2,d2.left,d2.down,l2.from_,l2.n,l2.end_,l2.safe,l2.tail,.slice F 4 fc,(),.slice TA 0 tc,.int .i64 1] ?_))
 have X2:=Hq (blkOld X1.out (pastAlloc (o:=.cells #[.int .i64 9,.int .i64 4,.int .i64 4,.slice A2 d2.sectors.length c2,d2.left,d2.down,l2.from_,l2.n,l2.end_,l2.safe,l2.tail,.slice F 4 fc,(),.slice TA 0 tc,.int .i64 1] 37) hb2))
 have Y2:=Hq (heap_alloc_new w2 (.cells #[.int .i64 9,.int .i64 4,.int .i64 4,.slice A2 d2.sectors.length c2,d2.left,d2.down,l2.from_,l2.n,l2.end_,l2.safe,l2.tail,.slice F 4 fc,(),.slice TA 0 tc,.int .i64 1] 37))
 have B2:=Hq (joinB B1.out (pastAlloc (o:=.cells #[.int .i64 9,.int .i64 4,.int .i64 4,.slice A2 d2.sectors.length c2,d2.left,d2.down,l2.from_,l2.n,l2.end_,l2.safe,l2.tail,.slice F 4 fc,(),.slice TA 0 tc,.int .i64 1] 37) hb2))
 have D2:=Hq (D1.out.below (pastAlloc (o:=.cells #[.int .i64 9,.int .i64 4,.int .i64 4,.slice A2 d2.sectors.length c2,d2.left,d2.down,l2.from_,l2.n,l2.end_,l2.safe,l2.tail,.slice F 4 fc,(),.slice TA 0 tc,.int .i64 1] 37) hb2))
 have E2:=Hq (hd2.below (allocB w2 (.cells #[.int .i64 9,.int .i64 4,.int .i64 4,.slice A2 d2.sectors.length c2,d2.left,d2.down,l2.from_,l2.n,l2.end_,l2.safe,l2.tail,.slice F 4 fc,(),.slice TA 0 tc,.int .i64 1] 37)))
 obtain⟨gt,hgt⟩:=ex w2.heap.size
 obtain⟨W2,hW2⟩:=ex (w2.alloc (.cells #[.int .i64 9,.int .i64 4,.int .i64 4,.slice A2 d2.sectors.length c2,d2.left,d2.down,l2.from_,l2.n,l2.end_,l2.safe,l2.tail,.slice F 4 fc,(),.slice TA 0 tc,.int .i64 1] 37))
 rw[← hgt]at Y2
 rw[← hW2]at X2 Y2 B2 D2 E2
 rw[← hW2,← hgt]
 clear hgt hW2 hb2 hd2 X1 B1 D1 HTW
 have HSA:=Hq (HS1.out A c W2 D2.out)
 go_upto_region 4 with(first
  |(with_reducible refine lP #[.slice A d0.sectors.length c,d0.left,d0.down] X2.out Tryz.underlying29 ?_)
  |(go_at_call 21;(with_reducible refine HSA.out.mono ?_);rintro e w3 ⟨A3,c3,he,hd3,-,hb3⟩;(try dsimp only[diskV]at he);subst he)
  |(with_reducible refine sN #[.slice A3 d3.sectors.length c3,d3.left,d3.down] ?_))
 have X3:=Hq (blkOld X2.out (pastAlloc (o:=.cells #[.slice A3 d3.sectors.length c3,d3.left,d3.down] 29) hb3))
 have Y3:=Hq (blkOld Y2.out (pastAlloc (o:=.cells #[.slice A3 d3.sectors.length c3,d3.left,d3.down] 29) hb3))
 have Z3:=Hq (heap_alloc_new w3 (.cells #[.slice A3 d3.sectors.length c3,d3.left,d3.down] 29))
 have B3:=Hq (joinB B2.out (pastAlloc (o:=.cells #[.slice A3 d3.sectors.length c3,d3.left,d3.down] 29) hb3))
 have D3:=Hq (D2.out.below (pastAlloc (o:=.cells #[.slice A3 d3.sectors.length c3,d3.left,d3.down] 29) hb3))
 have E3:=Hq (E2.out.below (pastAlloc (o:=.cells #[.slice A3 d3.sectors.length c3,d3.left,d3.down] 29) hb3))
 have G3:=Hq (hd3.below (allocB w3 (.cells #[.slice A3 d3.sectors.length c3,d3.left,d3.down] 29)))
 obtain⟨gd,hgd⟩:=ex w3.heap.size
 obtain⟨W3,hW3⟩:=ex (w3.alloc (.cells #[.slice A3 d3.sectors.length c3,d3.left,d3.down] 29))
 rw[← hgd]at Z3
 rw[← hW3]at X3 Y3 Z3 B3 D3 E3 G3
 rw[← hW3,← hgd]
 clear hgd hW3 hb3 hd3 X2 Y2 B2 D2 E2 HSA HS1
 have HSB:=Hq (HS2.out A c W3 D3.out)
 go_upto_region 5 with(first
  |(with_reducible refine lP #[.slice A d0.sectors.length c,d0.left,d0.down] X3.out Tryz.underlying29 ?_)
  |(go_at_call 21;(with_reducible refine HSB.out.mono ?_);rintro e w4 ⟨A4,c4,he,-,-,hb4⟩;(try dsimp only[diskV]at he);subst he)
  |(with_reducible refine sN #[.slice A4 d0.sectors.length c4,d0.left,d0.down] ?_))
 have X4:=Hq (blkOld X3.out (pastAlloc (o:=.cells #[.slice A4 d0.sectors.length c4,d0.left,d0.down] 29) hb4))
 have Y4:=Hq (blkOld Y3.out (pastAlloc (o:=.cells #[.slice A4 d0.sectors.length c4,d0.left,d0.down] 29) hb4))
 have Z4:=Hq (blkOld Z3.out (pastAlloc (o:=.cells #[.slice A4 d0.sectors.length c4,d0.left,d0.down] 29) hb4))
 have B4:=Hq (joinB B3.out (pastAlloc (o:=.cells #[.slice A4 d0.sectors.length c4,d0.left,d0.down] 29) hb4))
 have D4:=Hq (D3.out.below (pastAlloc (o:=.cells #[.slice A4 d0.sectors.length c4,d0.left,d0.down] 29) hb4))
 have E4:=Hq (E3.out.below (pastAlloc (o:=.cells #[.slice A4 d0.sectors.length c4,d0.left,d0.down] 29) hb4))
 have G4:=Hq (G3.out.below (pastAlloc (o:=.cells #[.slice A4 d0.sectors.length c4,d0.left,d0.down] 29) hb4))
 obtain⟨W4,hW4⟩:=ex (w4.alloc (.cells #[.slice A4 d0.sectors.length c4,d0.left,d0.down] 29))
 rw[← hW4]at X4 Y4 Z4 B4 D4 E4 G4
 rw[← hW4]
 clear hW4 hb4 X3 Y3 Z3 B3 D3 E3 G3 HSB HS2
 have k2:=HK2.out
 have k3:=HK3.out
 go_wp2_with (first
  |(with_reducible refine lP #[.slice A d0.sectors.length c,d0.left,d0.down] X4.out Tryz.underlying29 ?_)
  |(go_at_call 13;(with_reducible refine(HM0.out A c _ D4.out).mono ?_);rintro e w5 ⟨rfl,hb5⟩;have Y5:=Hq (blkOld Y4.out hb5);have Z5:=Hq (blkOld Z4.out hb5);have E5:=Hq (E4.out.below hb5);have G5:=Hq (G4.out.below hb5);have B5:=Hq (joinB B4.out hb5);clear D4 hb5)
  |(with_reducible refine lP #[.slice A2 d2.sectors.length c2,d2.left,d2.down] Y5.out Tryz.underlying29 ?_)
  |(go_at_call 13;(with_reducible refine(HM2.out A2 c2 _ E5.out).mono ?_);rintro e w6 ⟨rfl,hb6⟩;have hy6:=blkCell (blkOld Y5.out hb6);have Z6:=Hq (blkOld Z5.out hb6);have G6:=Hq (G5.out.below hb6);have B6:=Hq (joinB B5.out hb6);clear E5 hb6)
  |(with_reducible refine lL Z6.out Tryz.underlying29 ?_)
  |(go_at_call 13;(with_reducible refine(HM3.out A3 c3 _ G6.out).mono ?_);rintro e w7 ⟨rfl,hb7⟩;have B7:=Hq (joinB B6.out hb7)))
 go_ret
 exact⟨by simp,B7.out⟩
end Go.Proofs.YtilakddepaplhaaGreat
