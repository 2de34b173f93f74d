import Derived.Test.YtilakddepaplhaaGreatHb00
import Derived.Test.YtilakddepaplhaaGreatHb07
import Derived.Test.YtilakddepaplhaaGreatHb01
import Derived.Test.YtilakddepaplhaaGreatHb05
import Derived.Test.YtilakddepaplhaaGreatHb06
set_option maxRecDepth 100000
set_option maxHeartbeats 16000000
set_option linter.unusedSimpArgs false
namespace Go.Proofs.YtilakddepaplhaaGreat
open Go.RowKit
theorem record_clr (b:Nat)(s:ByteArray)(hm:s.size≤1000000)(s1:Rc.St)(h0:Rc.numM true s.data.toList ⟨0,false⟩ 1=(3,s1))(w:World)(hb:w.heap[b]? =some (.cells (rdC s 0 false) 133 (0,0))):
 Calls Tryz.prog 83 #[.pointer (some ⟨b,0,none⟩)] w (RecOut (Rc.readM true s.data.toList) b w):=by
 have hl:s.data.toList.length=s.size:=by simp
 have a1:s1.at_≤1:=Rc.numM_le h0
 have C0:=Hq (fun X f F u (hu:Rd w b s ⟨0,false⟩ X f F u)=>hu.num1 h0 hm (by show 0≤_;omega))
 rcases h1:Rc.numM true s.data.toList s1 6 with⟨lsn,s2⟩
 have a2:s2.at_≤s1.at_+6:=Rc.numM_le h1
 have C1:=Hq (fun X f F u (hu:Rd w b s s1 X f F u)=>hu.num6 h1 hm (by omega))
 rcases h2:Rc.numM true s.data.toList s2 6 with⟨prev,s3⟩
 have a3:s3.at_≤s2.at_+6:=Rc.numM_le h2
 have C2:=Hq (fun X f F u (hu:Rd w b s s2 X f F u)=>hu.num6 h2 hm (by omega))
 rcases h3:Rc.numM true s.data.toList s3 6 with⟨txn,s4⟩
 have a4:s4.at_≤s3.at_+6:=Rc.numM_le h3
 have C3:=Hq (fun X f F u (hu:Rd w b s s3 X f F u)=>hu.num6 h3 hm (by omega))
 rcases h4:Rc.numM true s.data.toList s4 3 with⟨pa,s5⟩
 have a5:s5.at_≤s4.at_+3:=Rc.numM_le h4
 have C4:=Hq (fun X f F u (hu:Rd w b s s4 X f F u)=>hu.num3 h4 hm (by omega))
 rcases h5:Rc.numM true s.data.toList s5 1 with⟨ok,s6⟩
 have a6:s6.at_≤s5.at_+1:=Rc.numM_le h5
 have C5:=Hq (fun X f F u (hu:Rd w b s s5 X f F u)=>hu.num1 h5 hm (by omega))
 rcases h6:Rc.numM true s.data.toList s6 2 with⟨os,s7⟩
 have a7:s7.at_≤s6.at_+2:=Rc.numM_le h6
 have C6:=Hq (fun X f F u (hu:Rd w b s s6 X f F u)=>hu.num2 h6 hm (by omega))
 rcases h7:Rc.textM s.data.toList s7 with⟨oo,s8⟩
 have a8:s8.at_≤s7.at_+s.data.toList.length:=Rc.textM_le h7
 have C7:=Hq (fun X f F u (hu:Rd w b s s7 X f F u)=>hu.text h7 hm (by omega))
 rcases h8:Rc.textM s.data.toList s8 with⟨on,s9⟩
 have a9:s9.at_≤s8.at_+s.data.toList.length:=Rc.textM_le h8
 have C8:=Hq (fun X f F u (hu:Rd w b s s8 X f F u)=>hu.text h8 hm (by omega))
 rcases h9:Rc.numM true s.data.toList s9 6 with⟨nx,s10⟩
 have a10:s10.at_≤s9.at_+6:=Rc.numM_le h9
 have C9:=Hq (fun X f F u (hu:Rd w b s s9 X f F u)=>hu.num6 h9 hm (by omega))
 have e0:Rc.headM true s.data.toList=(Rc.bare 3 lsn prev txn,s4):=by
  unfold Rc.headM;simp only[h0,h1,h2,h3]
 have RD:Rc.readM true s.data.toList=⟨lsn,prev,txn,3,pa,nx,0,⟨ok,os,oo,on⟩,0,0,Rc.noKey,[],[]⟩:=by
  unfold Rc.readM
  rw[e0]
  show Rc.restM true _ (Rc.bare 3 lsn prev txn) s4=_
  rw[Rc.restM_3 rfl]
  unfold Rc.opM
  simp only[h4,h5,h6,h7,h8,h9]
  rfl
 have HOF:=Hq (fun W=>of_any 3 W)
 rw[show ofV 3= .tuple #[formV true false true false true,true]from rfl]at HOF
 have RDH:=Hq RD
 clear RD
 have HX:=Hq (rd_new (st:=⟨0,false⟩) hb)
 clear hb e0 h0 a1 h1 a2 h2 a3 h3 a4 h4 a5 h5 a6 h6 a7 h7 a8 h8 a9 h9 a10
 go_enter Tryz.func83,Tryz.ntmps83
 go_upto_region 2 with fail
 obtain⟨W0,hW0⟩:=ex ((w.alloc (.cells (rcA 0 0 0 0 0 0 0 0 0 ⟨#[]⟩ ⟨#[]⟩ 0 0 ⟨#[]⟩ 0 0 (.slice none 0 0) (.slice none 0 0)) 55)).alloc (.cells (rcA 0 0 0 0 0 0 0 0 0 ⟨#[]⟩ ⟨#[]⟩ 0 0 ⟨#[]⟩ 0 0 (.slice none 0 0) (.slice none 0 0)) 55))
 rw[← hW0]at HX ⊢
 clear hW0
 go_upto_region 3 with(first|(go_at_call 116;(with_reducible refine(C0.out _ _ _ _ HX.out).mono ?_);rintro e w1 ⟨rfl,hS1⟩;have hz1:=blkFrozen hS1.bx;have hy1:=blkCell hS1.bx))
 obtain⟨U1,hU1⟩:=ex (w1.setCell ⟨w.heap.size+1,3,none⟩ (.int .i64 3))
 have H1:Hid (Rd w b s s1 (rcA 0 0 0 3 0 0 0 0 0 ⟨#[]⟩ ⟨#[]⟩ 0 0 ⟨#[]⟩ 0 0 (.slice none 0 0) (.slice none 0 0)) w.heap.size #[] (w1.setCell ⟨w.heap.size+1,3,none⟩ (.int .i64 3))):=Hq (by have h:=(hS1.set 3 (.int .i64 3));first|exact h|simpa using h)
 rw[← hU1]at H1 ⊢
 clear hU1 hS1 hz1 hy1 HX
 have hcx:=blkCell H1.out.bx
 go_upto_region 4 with(go_at_call 117;(with_reducible refine(HOF.out _).mono ?_);rintro e w9 ⟨rfl,hb9⟩)
 have HF:=Hq ((H1.out.step hb9).formed #[true,false,true,false,true])
 have hf:w.heap.size+1<w9.heap.size:=by have h1:=H1.out.size;have h2:=hb9.size;omega
 obtain⟨f,hfe⟩:=ex w9.heap.size
 rw[← hfe]at HF hf ⊢
 obtain⟨WF,hWF⟩:=ex (w9.alloc (.cells #[true,false,true,false,true] 165))
 rw[← hWF]at HF ⊢
 clear hWF hfe hb9 hcx H1
 have hF:=blkCell (HF.out.form (by omega))
 go_upto_region 5 with(first|(go_at_call 116;(with_reducible refine(C1.out _ _ _ _ HF.out).mono ?_);rintro e w2 ⟨rfl,hS2⟩;have hz2:=blkFrozen hS2.bx;have hy2:=blkCell hS2.bx)|(go_at_call 116;(with_reducible refine(C2.out _ _ _ _ hS2).mono ?_);rintro e w3 ⟨rfl,hS3⟩;have hz3:=blkFrozen hS3.bx;have hy3:=blkCell hS3.bx)|(go_at_call 116;(with_reducible refine(C3.out _ _ _ _ hS3).mono ?_);rintro e w4 ⟨rfl,hS4⟩;have hz4:=blkFrozen hS4.bx;have hy4:=blkCell hS4.bx))
 obtain⟨U4,hU4⟩:=ex (((w4.setCell ⟨w.heap.size+1,0,none⟩ (.int .i64 lsn)).setCell ⟨w.heap.size+1,1,none⟩ (.int .i64 prev)).setCell ⟨w.heap.size+1,2,none⟩ (.int .i64 txn))
 have H4:Hid (Rd w b s s4 (rcA lsn prev txn 3 0 0 0 0 0 ⟨#[]⟩ ⟨#[]⟩ 0 0 ⟨#[]⟩ 0 0 (.slice none 0 0) (.slice none 0 0)) f #[true,false,true,false,true] (((w4.setCell ⟨w.heap.size+1,0,none⟩ (.int .i64 lsn)).setCell ⟨w.heap.size+1,1,none⟩ (.int .i64 prev)).setCell ⟨w.heap.size+1,2,none⟩ (.int .i64 txn))):=Hq (by have h:=(((hS4.set 0 (.int .i64 lsn)).set 1 (.int .i64 prev)).set 2 (.int .i64 txn));first|exact h|simpa using h)
 rw[← hU4]at H4 ⊢
 clear hU4 hS4 hz4 hy4 hS3 hz3 hy3 hS2 hz2 hy2 HF hF
 have hF:=blkCell (H4.out.form (by omega))
 go_upto_region 7 with(first|(go_at_call 116;(with_reducible refine(C4.out _ _ _ _ H4.out).mono ?_);rintro e w5 ⟨rfl,hS5⟩;have hz5:=blkFrozen hS5.bx;have hy5:=blkCell hS5.bx))
 obtain⟨U5,hU5⟩:=ex (w5.setCell ⟨w.heap.size+1,4,none⟩ (.int .i64 pa))
 have H5:Hid (Rd w b s s5 (rcA lsn prev txn 3 pa 0 0 0 0 ⟨#[]⟩ ⟨#[]⟩ 0 0 ⟨#[]⟩ 0 0 (.slice none 0 0) (.slice none 0 0)) f #[true,false,true,false,true] (w5.setCell ⟨w.heap.size+1,4,none⟩ (.int .i64 pa))):=Hq (by have h:=(hS5.set 4 (.int .i64 pa));first|exact h|simpa using h)
 rw[← hU5]at H5 ⊢
 clear hU5 hS5 hz5 hy5 H4 hF
 go_upto_region 8 with(first|(go_at_call 116;(with_reducible refine(C5.out _ _ _ _ H5.out).mono ?_);rintro e w6 ⟨rfl,hS6⟩;have hz6:=blkFrozen hS6.bx;have hy6:=blkCell hS6.bx)|(go_at_call 116;(with_reducible refine(C6.out _ _ _ _ hS6).mono ?_);rintro e w7 ⟨rfl,hS7⟩;have hz7:=blkFrozen hS7.bx;have hy7:=blkCell hS7.bx)|(go_at_call 118;(with_reducible refine(C7.out _ _ _ _ hS7).mono ?_);rintro e w8 ⟨rfl,hS8⟩;have hz8:=blkFrozen hS8.bx;have hy8:=blkCell hS8.bx)|(go_at_call 118;(with_reducible refine(C8.out _ _ _ _ hS8).mono ?_);rintro e w9 ⟨rfl,hS9⟩;have hz9:=blkFrozen hS9.bx;have hy9:=blkCell hS9.bx))
 obtain⟨U9,hU9⟩:=ex ((((w9.setCell ⟨w.heap.size+1,7,none⟩ (.int .i64 ok)).setCell ⟨w.heap.size+1,8,none⟩ (.int .i64 os)).setCell ⟨w.heap.size+1,9,none⟩ (.string oo)).setCell ⟨w.heap.size+1,10,none⟩ (.string on))
 have H9:Hid (Rd w b s s9 (rcA lsn prev txn 3 pa 0 0 ok os oo on 0 0 ⟨#[]⟩ 0 0 (.slice none 0 0) (.slice none 0 0)) f #[true,false,true,false,true] ((((w9.setCell ⟨w.heap.size+1,7,none⟩ (.int .i64 ok)).setCell ⟨w.heap.size+1,8,none⟩ (.int .i64 os)).setCell ⟨w.heap.size+1,9,none⟩ (.string oo)).setCell ⟨w.heap.size+1,10,none⟩ (.string on))):=Hq (by have h:=((((hS9.set 7 (.int .i64 ok)).set 8 (.int .i64 os)).set 9 (.string oo)).set 10 (.string on));first|exact h|simpa using h)
 rw[← hU9]at H9 ⊢
 clear hU9 hS9 hz9 hy9 hS8 hz8 hy8 hS7 hz7 hy7 hS6 hz6 hy6 H5
 have hF:=blkCell (H9.out.form (by omega))
 go_upto_region 16 with(first|(go_at_call 116;(with_reducible refine(C9.out _ _ _ _ H9.out).mono ?_);rintro e w10 ⟨rfl,hS10⟩;have hz10:=blkFrozen hS10.bx;have hy10:=blkCell hS10.bx))
 obtain⟨U10,hU10⟩:=ex (w10.setCell ⟨w.heap.size+1,5,none⟩ (.int .i64 nx))
 have H10:Hid (Rd w b s s10 (rcA lsn prev txn 3 pa nx 0 ok os oo on 0 0 ⟨#[]⟩ 0 0 (.slice none 0 0) (.slice none 0 0)) f #[true,false,true,false,true] (w10.setCell ⟨w.heap.size+1,5,none⟩ (.int .i64 nx))):=Hq (by have h:=(hS10.set 5 (.int .i64 nx));first|exact h|simpa using h)
 rw[← hU10]at H10 ⊢
 clear hU10 hS10 hz10 hy10 H9 hF
 have hF:=blkCell (H10.out.form (by omega))
 go_upto_region 26 with fail
 clear hF
 go_wp2_with (first|(with_reducible refine lL H10.out.bx Tryz.underlying55 ?_)|(with_reducible refine lS (rcA lsn prev txn 3 pa nx 0 ok os oo on 0 0 ⟨#[]⟩ 0 0 (.slice none 0 0) (.slice none 0 0)) H10.out.br ?_))
 refine bodyPost_ret (v:=.agg (rcA lsn prev txn 3 pa nx 0 ok os oo on 0 0 ⟨#[]⟩ 0 0 (.slice none 0 0) (.slice none 0 0))) (results_cell rfl _ _ rfl (load_whole H10.out.done.1 Tryz.underlying55 Kr Kr)) rfl ?_
 rw[RDH.out]
 exact⟨none,0,none,0,rfl,⟨⟨Reads.none_ _ _ _ _,Reads.none_ _ _ _ _,⟨Nat.zero_le _,Nat.zero_le _⟩⟩,NewT.none_ _ _ _,NewT.none_ _ _ _⟩,H10.out.done.2⟩
theorem record_change (b:Nat)(s:ByteArray)(hm:s.size≤1000000)(s1:Rc.St)(h0:Rc.numM true s.data.toList ⟨0,false⟩ 1=(2,s1))(w:World)(hb:w.heap[b]? =some (.cells (rdC s 0 false) 133 (0,0))):
 Calls Tryz.prog 83 #[.pointer (some ⟨b,0,none⟩)] w (RecOut (Rc.readM true s.data.toList) b w):=by
 have hl:s.data.toList.length=s.size:=by simp
 have a1:s1.at_≤1:=Rc.numM_le h0
 have C0:=Hq (fun X f F u (hu:Rd w b s ⟨0,false⟩ X f F u)=>hu.num1 h0 hm (by show 0≤_;omega))
 rcases h1:Rc.numM true s.data.toList s1 6 with⟨lsn,s2⟩
 have a2:s2.at_≤s1.at_+6:=Rc.numM_le h1
 have C1:=Hq (fun X f F u (hu:Rd w b s s1 X f F u)=>hu.num6 h1 hm (by omega))
 rcases h2:Rc.numM true s.data.toList s2 6 with⟨prev,s3⟩
 have a3:s3.at_≤s2.at_+6:=Rc.numM_le h2
 have C2:=Hq (fun X f F u (hu:Rd w b s s2 X f F u)=>hu.num6 h2 hm (by omega))
 rcases h3:Rc.numM true s.data.toList s3 6 with⟨txn,s4⟩
 have a4:s4.at_≤s3.at_+6:=Rc.numM_le h3
 have C3:=Hq (fun X f F u (hu:Rd w b s s3 X f F u)=>hu.num6 h3 hm (by omega))
 rcases h4:Rc.numM true s.data.toList s4 3 with⟨pa,s5⟩
 have a5:s5.at_≤s4.at_+3:=Rc.numM_le h4
 have C4:=Hq (fun X f F u (hu:Rd w b s s4 X f F u)=>hu.num3 h4 hm (by omega))
 rcases h5:Rc.numM true s.data.toList s5 1 with⟨ok,s6⟩
 have a6:s6.at_≤s5.at_+1:=Rc.numM_le h5
 have C5:=Hq (fun X f F u (hu:Rd w b s s5 X f F u)=>hu.num1 h5 hm (by omega))
 rcases h6:Rc.numM true s.data.toList s6 2 with⟨os,s7⟩
 have a7:s7.at_≤s6.at_+2:=Rc.numM_le h6
 have C6:=Hq (fun X f F u (hu:Rd w b s s6 X f F u)=>hu.num2 h6 hm (by omega))
 rcases h7:Rc.textM s.data.toList s7 with⟨oo,s8⟩
 have a8:s8.at_≤s7.at_+s.data.toList.length:=Rc.textM_le h7
 have C7:=Hq (fun X f F u (hu:Rd w b s s7 X f F u)=>hu.text h7 hm (by omega))
 rcases h8:Rc.textM s.data.toList s8 with⟨on,s9⟩
 have a9:s9.at_≤s8.at_+s.data.toList.length:=Rc.textM_le h8
 have C8:=Hq (fun X f F u (hu:Rd w b s s8 X f F u)=>hu.text h8 hm (by omega))
 rcases h9:Rc.numM true s.data.toList s9 1 with⟨ho,s10⟩
 have a10:s10.at_≤s9.at_+1:=Rc.numM_le h9
 have C9:=Hq (fun X f F u (hu:Rd w b s s9 X f F u)=>hu.num1 h9 hm (by omega))
 rcases h10:Rc.numM true s.data.toList s10 3 with⟨ro,s11⟩
 have a11:s11.at_≤s10.at_+3:=Rc.numM_le h10
 have C10:=Hq (fun X f F u (hu:Rd w b s s10 X f F u)=>hu.num3 h10 hm (by omega))
 rcases h11:Rc.numM true s.data.toList s11 3 with⟨ep,s12⟩
 have a12:s12.at_≤s11.at_+3:=Rc.numM_le h11
 have C11:=Hq (fun X f F u (hu:Rd w b s s11 X f F u)=>hu.num3 h11 hm (by omega))
 rcases h12:Rc.numM true s.data.toList s12 2 with⟨es,s13⟩
 have a13:s13.at_≤s12.at_+2:=Rc.numM_le h12
 have C12:=Hq (fun X f F u (hu:Rd w b s s12 X f F u)=>hu.num2 h12 hm (by omega))
 rcases h13:Rc.textM s.data.toList s13 with⟨ek,s14⟩
 have a14:s14.at_≤s13.at_+s.data.toList.length:=Rc.textM_le h13
 have C13:=Hq (fun X f F u (hu:Rd w b s s13 X f F u)=>hu.text h13 hm (by omega))
 have e0:Rc.headM true s.data.toList=(Rc.bare 2 lsn prev txn,s4):=by
  unfold Rc.headM;simp only[h0,h1,h2,h3]
 have RDD:Rc.readM true s.data.toList=Rc.treeM true s.data.toList ⟨lsn,prev,txn,2,pa,0,0,⟨ok,os,oo,on⟩,0,0,Rc.noKey,[],[]⟩ s9:=by
  unfold Rc.readM
  rw[e0]
  show Rc.restM true _ (Rc.bare 2 lsn prev txn) s4=_
  rw[Rc.restM_2 rfl]
  unfold Rc.opM
  simp only[h4,h5,h6,h7,h8]
  rfl
 have RD1:ho=1→Rc.readM true s.data.toList=⟨lsn,prev,txn,2,pa,0,0,⟨ok,os,oo,on⟩,ho,0,Rc.noKey,[],[]⟩:=fun hh=>by
  rw[RDD];unfold Rc.treeM;simp only[h9,if_pos hh]
 have RD2:¬ ho=1→Rc.readM true s.data.toList=⟨lsn,prev,txn,2,pa,0,0,⟨ok,os,oo,on⟩,ho,ro,⟨ek,ep,es⟩,[],[]⟩:=fun hh=>by
  rw[RDD];unfold Rc.treeM;simp only[h9,h10,h11,h12,h13,if_neg hh]
 clear RDD
 have HOF:=Hq (fun W=>of_any 2 W)
 rw[show ofV 2= .tuple #[formV true true false false true,true]from rfl]at HOF
 have RDA:=Hq RD1;have RDB:=Hq RD2
 clear RD1 RD2
 have HX:=Hq (rd_new (st:=⟨0,false⟩) hb)
 clear hb e0 h0 a1 h1 a2 h2 a3 h3 a4 h4 a5 h5 a6 h6 a7 h7 a8 h8 a9 h9 a10 h10 a11 h11 a12 h12 a13 h13 a14
 go_enter Tryz.func83,Tryz.ntmps83
 go_upto_region 2 with fail
 obtain⟨W0,hW0⟩:=ex ((w.alloc (.cells (rcA 0 0 0 0 0 0 0 0 0 ⟨#[]⟩ ⟨#[]⟩ 0 0 ⟨#[]⟩ 0 0 (.slice none 0 0) (.slice none 0 0)) 55)).alloc (.cells (rcA 0 0 0 0 0 0 0 0 0 ⟨#[]⟩ ⟨#[]⟩ 0 0 ⟨#[]⟩ 0 0 (.slice none 0 0) (.slice none 0 0)) 55))
 rw[← hW0]at HX ⊢
 clear hW0
 go_upto_region 3 with(first|(go_at_call 116;(with_reducible refine(C0.out _ _ _ _ HX.out).mono ?_);rintro e w1 ⟨rfl,hS1⟩;have hz1:=blkFrozen hS1.bx;have hy1:=blkCell hS1.bx))
 obtain⟨U1,hU1⟩:=ex (w1.setCell ⟨w.heap.size+1,3,none⟩ (.int .i64 2))
 have H1:Hid (Rd w b s s1 (rcA 0 0 0 2 0 0 0 0 0 ⟨#[]⟩ ⟨#[]⟩ 0 0 ⟨#[]⟩ 0 0 (.slice none 0 0) (.slice none 0 0)) w.heap.size #[] (w1.setCell ⟨w.heap.size+1,3,none⟩ (.int .i64 2))):=Hq (by have h:=(hS1.set 3 (.int .i64 2));first|exact h|simpa using h)
 rw[← hU1]at H1 ⊢
 clear hU1 hS1 hz1 hy1 HX
 have hcx:=blkCell H1.out.bx
 go_upto_region 4 with(go_at_call 117;(with_reducible refine(HOF.out _).mono ?_);rintro e w9 ⟨rfl,hb9⟩)
 have HF:=Hq ((H1.out.step hb9).formed #[true,true,false,false,true])
 have hf:w.heap.size+1<w9.heap.size:=by have h1:=H1.out.size;have h2:=hb9.size;omega
 obtain⟨f,hfe⟩:=ex w9.heap.size
 rw[← hfe]at HF hf ⊢
 obtain⟨WF,hWF⟩:=ex (w9.alloc (.cells #[true,true,false,false,true] 165))
 rw[← hWF]at HF ⊢
 clear hWF hfe hb9 hcx H1
 have hF:=blkCell (HF.out.form (by omega))
 go_upto_region 5 with(first|(go_at_call 116;(with_reducible refine(C1.out _ _ _ _ HF.out).mono ?_);rintro e w2 ⟨rfl,hS2⟩;have hz2:=blkFrozen hS2.bx;have hy2:=blkCell hS2.bx)|(go_at_call 116;(with_reducible refine(C2.out _ _ _ _ hS2).mono ?_);rintro e w3 ⟨rfl,hS3⟩;have hz3:=blkFrozen hS3.bx;have hy3:=blkCell hS3.bx)|(go_at_call 116;(with_reducible refine(C3.out _ _ _ _ hS3).mono ?_);rintro e w4 ⟨rfl,hS4⟩;have hz4:=blkFrozen hS4.bx;have hy4:=blkCell hS4.bx))
 obtain⟨U4,hU4⟩:=ex (((w4.setCell ⟨w.heap.size+1,0,none⟩ (.int .i64 lsn)).setCell ⟨w.heap.size+1,1,none⟩ (.int .i64 prev)).setCell ⟨w.heap.size+1,2,none⟩ (.int .i64 txn))
 have H4:Hid (Rd w b s s4 (rcA lsn prev txn 2 0 0 0 0 0 ⟨#[]⟩ ⟨#[]⟩ 0 0 ⟨#[]⟩ 0 0 (.slice none 0 0) (.slice none 0 0)) f #[true,true,false,false,true] (((w4.setCell ⟨w.heap.size+1,0,none⟩ (.int .i64 lsn)).setCell ⟨w.heap.size+1,1,none⟩ (.int .i64 prev)).setCell ⟨w.heap.size+1,2,none⟩ (.int .i64 txn))):=Hq (by have h:=(((hS4.set 0 (.int .i64 lsn)).set 1 (.int .i64 prev)).set 2 (.int .i64 txn));first|exact h|simpa using h)
 rw[← hU4]at H4 ⊢
 clear hU4 hS4 hz4 hy4 hS3 hz3 hy3 hS2 hz2 hy2 HF hF
 have hF:=blkCell (H4.out.form (by omega))
 go_upto_region 7 with(first|(go_at_call 116;(with_reducible refine(C4.out _ _ _ _ H4.out).mono ?_);rintro e w5 ⟨rfl,hS5⟩;have hz5:=blkFrozen hS5.bx;have hy5:=blkCell hS5.bx))
 obtain⟨U5,hU5⟩:=ex (w5.setCell ⟨w.heap.size+1,4,none⟩ (.int .i64 pa))
 have H5:Hid (Rd w b s s5 (rcA lsn prev txn 2 pa 0 0 0 0 ⟨#[]⟩ ⟨#[]⟩ 0 0 ⟨#[]⟩ 0 0 (.slice none 0 0) (.slice none 0 0)) f #[true,true,false,false,true] (w5.setCell ⟨w.heap.size+1,4,none⟩ (.int .i64 pa))):=Hq (by have h:=(hS5.set 4 (.int .i64 pa));first|exact h|simpa using h)
 rw[← hU5]at H5 ⊢
 clear hU5 hS5 hz5 hy5 H4 hF
 go_upto_region 8 with(first|(go_at_call 116;(with_reducible refine(C5.out _ _ _ _ H5.out).mono ?_);rintro e w6 ⟨rfl,hS6⟩;have hz6:=blkFrozen hS6.bx;have hy6:=blkCell hS6.bx)|(go_at_call 116;(with_reducible refine(C6.out _ _ _ _ hS6).mono ?_);rintro e w7 ⟨rfl,hS7⟩;have hz7:=blkFrozen hS7.bx;have hy7:=blkCell hS7.bx)|(go_at_call 118;(with_reducible refine(C7.out _ _ _ _ hS7).mono ?_);rintro e w8 ⟨rfl,hS8⟩;have hz8:=blkFrozen hS8.bx;have hy8:=blkCell hS8.bx)|(go_at_call 118;(with_reducible refine(C8.out _ _ _ _ hS8).mono ?_);rintro e w9 ⟨rfl,hS9⟩;have hz9:=blkFrozen hS9.bx;have hy9:=blkCell hS9.bx))
 obtain⟨U9,hU9⟩:=ex ((((w9.setCell ⟨w.heap.size+1,7,none⟩ (.int .i64 ok)).setCell ⟨w.heap.size+1,8,none⟩ (.int .i64 os)).setCell ⟨w.heap.size+1,9,none⟩ (.string oo)).setCell ⟨w.heap.size+1,10,none⟩ (.string on))
 have H9:Hid (Rd w b s s9 (rcA lsn prev txn 2 pa 0 0 ok os oo on 0 0 ⟨#[]⟩ 0 0 (.slice none 0 0) (.slice none 0 0)) f #[true,true,false,false,true] ((((w9.setCell ⟨w.heap.size+1,7,none⟩ (.int .i64 ok)).setCell ⟨w.heap.size+1,8,none⟩ (.int .i64 os)).setCell ⟨w.heap.size+1,9,none⟩ (.string oo)).setCell ⟨w.heap.size+1,10,none⟩ (.string on))):=Hq (by have h:=((((hS9.set 7 (.int .i64 ok)).set 8 (.int .i64 os)).set 9 (.string oo)).set 10 (.string on));first|exact h|simpa using h)
 rw[← hU9]at H9 ⊢
 clear hU9 hS9 hz9 hy9 hS8 hz8 hy8 hS7 hz7 hy7 hS6 hz6 hy6 H5
 have hF:=blkCell (H9.out.form (by omega))
 go_upto_region 10 with(first|(go_at_call 116;(with_reducible refine(C9.out _ _ _ _ H9.out).mono ?_);rintro e w10 ⟨rfl,hS10⟩;have hz10:=blkFrozen hS10.bx;have hy10:=blkCell hS10.bx))
 obtain⟨U10,hU10⟩:=ex (w10.setCell ⟨w.heap.size+1,11,none⟩ (.int .i64 ho))
 have H10:Hid (Rd w b s s10 (rcA lsn prev txn 2 pa 0 0 ok os oo on ho 0 ⟨#[]⟩ 0 0 (.slice none 0 0) (.slice none 0 0)) f #[true,true,false,false,true] (w10.setCell ⟨w.heap.size+1,11,none⟩ (.int .i64 ho))):=Hq (by have h:=(hS10.set 11 (.int .i64 ho));first|exact h|simpa using h)
 rw[← hU10]at H10 ⊢
 clear hU10 hS10 hz10 hy10 H9 hF
 have hF:=blkCell (H10.out.form (by omega))
 have hcx:=blkCell H10.out.bx
 by_cases hh:ho=1
 ·subst hh
  have RDH:=Hq (RDA.out rfl)
  go_upto_region 26 with fail
  clear hF hcx
  go_wp2_with (first|(with_reducible refine lL H10.out.bx Tryz.underlying55 ?_)|(with_reducible refine lS (rcA lsn prev txn 2 pa 0 0 ok os oo on 1 0 ⟨#[]⟩ 0 0 (.slice none 0 0) (.slice none 0 0)) H10.out.br ?_))
  refine bodyPost_ret (v:=.agg (rcA lsn prev txn 2 pa 0 0 ok os oo on 1 0 ⟨#[]⟩ 0 0 (.slice none 0 0) (.slice none 0 0))) (results_cell rfl _ _ rfl (load_whole H10.out.done.1 Tryz.underlying55 Kr Kr)) rfl ?_
  rw[RDH.out]
  exact⟨none,0,none,0,rfl,⟨⟨Reads.none_ _ _ _ _,Reads.none_ _ _ _ _,⟨Nat.zero_le _,Nat.zero_le _⟩⟩,NewT.none_ _ _ _,NewT.none_ _ _ _⟩,H10.out.done.2⟩
 ·have RDH:=Hq (RDB.out hh)
  have hh2:(ho==1)=false:=by simpa using hh
  have hh3:(ho != 1)=true:=by simpa using hh
  clear hh
  go_upto_region 12 with(first|(go_at_call 116;(with_reducible refine(C10.out _ _ _ _ H10.out).mono ?_);rintro e w11 ⟨rfl,hS11⟩;have hz11:=blkFrozen hS11.bx;have hy11:=blkCell hS11.bx))
  obtain⟨U11,hU11⟩:=ex (w11.setCell ⟨w.heap.size+1,12,none⟩ (.int .i64 ro))
  have H11:Hid (Rd w b s s11 (rcA lsn prev txn 2 pa 0 0 ok os oo on ho ro ⟨#[]⟩ 0 0 (.slice none 0 0) (.slice none 0 0)) f #[true,true,false,false,true] (w11.setCell ⟨w.heap.size+1,12,none⟩ (.int .i64 ro))):=Hq (by have h:=(hS11.set 12 (.int .i64 ro));first|exact h|simpa using h)
  rw[← hU11]at H11 ⊢
  clear hU11 hS11 hz11 hy11 H10 hF hcx
  go_upto_region 13 with(first|(go_at_call 116;(with_reducible refine(C11.out _ _ _ _ H11.out).mono ?_);rintro e w12 ⟨rfl,hS12⟩;have hz12:=blkFrozen hS12.bx;have hy12:=blkCell hS12.bx)|(go_at_call 116;(with_reducible refine(C12.out _ _ _ _ hS12).mono ?_);rintro e w13 ⟨rfl,hS13⟩;have hz13:=blkFrozen hS13.bx;have hy13:=blkCell hS13.bx))
  obtain⟨U13,hU13⟩:=ex ((w13.setCell ⟨w.heap.size+1,14,none⟩ (.int .i64 ep)).setCell ⟨w.heap.size+1,15,none⟩ (.int .i64 es))
  have H13:Hid (Rd w b s s13 (rcA lsn prev txn 2 pa 0 0 ok os oo on ho ro ⟨#[]⟩ ep es (.slice none 0 0) (.slice none 0 0)) f #[true,true,false,false,true] ((w13.setCell ⟨w.heap.size+1,14,none⟩ (.int .i64 ep)).setCell ⟨w.heap.size+1,15,none⟩ (.int .i64 es))):=Hq (by have h:=((hS13.set 14 (.int .i64 ep)).set 15 (.int .i64 es));first|exact h|simpa using h)
  rw[← hU13]at H13 ⊢
  clear hU13 hS13 hz13 hy13 hS12 hz12 hy12 H11
  go_upto_region 14 with(first|(go_at_call 118;(with_reducible refine(C13.out _ _ _ _ H13.out).mono ?_);rintro e w14 ⟨rfl,hS14⟩;have hz14:=blkFrozen hS14.bx;have hy14:=blkCell hS14.bx))
  obtain⟨U14,hU14⟩:=ex (w14.setCell ⟨w.heap.size+1,13,none⟩ (.string ek))
  have H14:Hid (Rd w b s s14 (rcA lsn prev txn 2 pa 0 0 ok os oo on ho ro ek ep es (.slice none 0 0) (.slice none 0 0)) f #[true,true,false,false,true] (w14.setCell ⟨w.heap.size+1,13,none⟩ (.string ek))):=Hq (by have h:=(hS14.set 13 (.string ek));first|exact h|simpa using h)
  rw[← hU14]at H14 ⊢
  clear hU14 hS14 hz14 hy14 H13
  have hF:=blkCell (H14.out.form (by omega))
  go_upto_region 26 with fail
  clear hF
  go_wp2_with (first|(with_reducible refine lL H14.out.bx Tryz.underlying55 ?_)|(with_reducible refine lS (rcA lsn prev txn 2 pa 0 0 ok os oo on ho ro ek ep es (.slice none 0 0) (.slice none 0 0)) H14.out.br ?_))
  refine bodyPost_ret (v:=.agg (rcA lsn prev txn 2 pa 0 0 ok os oo on ho ro ek ep es (.slice none 0 0) (.slice none 0 0))) (results_cell rfl _ _ rfl (load_whole H14.out.done.1 Tryz.underlying55 Kr Kr)) rfl ?_
  rw[RDH.out]
  exact⟨none,0,none,0,rfl,⟨⟨Reads.none_ _ _ _ _,Reads.none_ _ _ _ _,⟨Nat.zero_le _,Nat.zero_le _⟩⟩,NewT.none_ _ _ _,NewT.none_ _ _ _⟩,H14.out.done.2⟩
end Go.Proofs.YtilakddepaplhaaGreat
namespace Rc
theorem txn_step {l:List UInt8}{st:St}(h:st.at_≤l.length):((txnM true l st).2.bad=false→(txnM true l st).2.at_≤l.length)∧(txnM true l st).2.at_≤l.length+100:=by
 rcases h1:numM true l st 6 with⟨a,s1⟩
 rcases h2:numM true l s1 6 with⟨b,s2⟩
 rcases h3:numM true l s2 6 with⟨c,s3⟩
 rcases h4:numM true l s3 1 with⟨d,s4⟩
 have e:(txnM true l st).2=s4:=by unfold txnM;simp only[h1,h2,h3,h4]
 rw[e]
 have a1:=numM_le h1
 have a2:=numM_le h2
 have a3:=numM_le h3
 have a4:=numM_le h4
 exact⟨fun hb=>(numM_in h4 hb).1,by omega⟩
theorem dirty_step {l:List UInt8}{st:St}(h:st.at_≤l.length):((dirtyM true l st).2.bad=false→(dirtyM true l st).2.at_≤l.length)∧(dirtyM true l st).2.at_≤l.length+100:=by
 rcases h1:numM true l st 3 with⟨a,s1⟩
 rcases h2:numM true l s1 6 with⟨b,s2⟩
 have e:(dirtyM true l st).2=s2:=by unfold dirtyM;simp only[h1,h2]
 rw[e]
 have a1:=numM_le h1
 have a2:=numM_le h2
 exact⟨fun hb=>(numM_in h2 hb).1,by omega⟩
structure Rest {α:Type} (one:St→α×St) (len:Nat) (TS:List α) (sT:St) (ts:List α) (m:Nat) (st:St):Prop where
 list:ts++(manyM one m st).1=TS
 state:(manyM one m st).2=sT
 inn:st.bad=false→st.at_≤len
 lim:st.at_≤len+500
theorem Rest.stop {α:Type}{one:St→α×St}{len:Nat}{TS ts:List α}{sT st:St}(h:Rest one len TS sT ts 0 st):ts=TS∧st=sT:=⟨by simpa[manyM]using h.list,by simpa[manyM]using h.state⟩
theorem many_bad {α:Type}{one:St→α×St}{m:Nat}{st:St}(hb:st.bad=true):manyM one m st=([],st):=by
 cases m with
 |zero=>rfl
 |succ m=>unfold manyM;rw[if_pos hb]
theorem Rest.bad {α:Type}{one:St→α×St}{len m:Nat}{TS ts:List α}{sT st:St}(h:Rest one len TS sT ts m st)(hb:st.bad=true):ts=TS∧st=sT:=by
 have h1:=h.list
 have h2:=h.state
 rw[many_bad hb]at h1 h2
 exact⟨by simpa using h1,h2⟩
theorem Rest.next {α:Type}{one:St→α×St}{len m:Nat}{TS ts:List α}{sT st st':St}{x:α}(h:Rest one len TS sT ts m st)(h0:0<m)(hb:st.bad=false)(hx:one st=(x,st'))(h1:st'.bad=false→st'.at_≤len)(h2:st'.at_≤len+100):
 Rest one len TS sT (ts++[x]) (m-1) st':=by
 obtain⟨m,rfl⟩:∃ k,m=k+1:=⟨m-1,by omega⟩
 have e:manyM one (m+1) st=(x::(manyM one m st').1,(manyM one m st').2):=by
  conv=>lhs;unfold manyM
  rw[if_neg (by rw[hb];simp),hx]
 have h3:=h.list
 have h4:=h.state
 rw[e]at h3 h4
 exact⟨by rw[Nat.add_sub_cancel,List.append_assoc];exact h3,h4,h1,by omega⟩
theorem many_le {α:Type}{one:St→α×St}{l:List UInt8}(hs:∀ st,st.at_≤l.length→((one st).2.bad=false→(one st).2.at_≤l.length)∧(one st).2.at_≤l.length+100):
 ∀ (m:Nat) (st:St),(st.bad=false→st.at_≤l.length)→st.at_≤l.length+400→((manyM one m st).2.bad=false→(manyM one m st).2.at_≤l.length)∧(manyM one m st).2.at_≤l.length+400∧(manyM one m st).1.length≤m:=by
 intro m
 induction m with
 |zero=>intro st h1 h2;exact⟨h1,h2,Nat.le_refl _⟩
 |succ m ih=>
  intro st h1 h2
  cases hb:st.bad with
  |true=>rw[many_bad hb];exact⟨h1,h2,Nat.zero_le _⟩
  |false=>
   have h3:=hs st (h1 hb)
   have h4:=ih (one st).2 h3.1 (by omega)
   unfold manyM
   rw[if_neg (by rw[hb];simp)]
   exact⟨h4.1,h4.2.1,by simpa using h4.2.2⟩
end Rc
namespace Go.Proofs.YtilakddepaplhaaGreat
open Go.RowKit
theorem Rd.numK {w u:World}{b f:Nat}{s:ByteArray}{st st':Rc.St}{X F:Array Value}{n:Int}(h:Rd w b s st X f F u)(k:Nat)(h1:1≤k)(h6:k≤6)(hn:Rc.numM true s.data.toList st k=(n,st'))(hm:s.size≤1000000)(ha:st.at_≤2000000000):
 Calls Tryz.prog 116 #[.pointer (some ⟨b,0,none⟩),.int .i64 (k:Int)] u fun e v=>e= .returned (.int .i64 n)∧Rd w b s st' X f F v∧KeptB u.heap.size b u v:=by
 refine(rnum_any b s st k h1 h6 (by omega) ha u h.rd).mono ?_
 rintro e v ⟨rfl,h2,h3⟩
 rw[hn]at h2 ⊢
 exact⟨rfl,h.turn h2 h3,h3⟩
theorem Rd.numK1 {w u:World}{b f:Nat}{s:ByteArray}{st st':Rc.St}{X F:Array Value}{n:Int}(h:Rd w b s st X f F u)(hn:Rc.numM true s.data.toList st 1=(n,st'))(hm:s.size≤1000000)(ha:st.at_≤2000000000):
 Calls Tryz.prog 116 #[.pointer (some ⟨b,0,none⟩),.int .i64 1] u fun e v=>e= .returned (.int .i64 n)∧Rd w b s st' X f F v∧KeptB u.heap.size b u v:=h.numK 1 (by omega) (by omega) hn hm ha
theorem Rd.numK2 {w u:World}{b f:Nat}{s:ByteArray}{st st':Rc.St}{X F:Array Value}{n:Int}(h:Rd w b s st X f F u)(hn:Rc.numM true s.data.toList st 2=(n,st'))(hm:s.size≤1000000)(ha:st.at_≤2000000000):
 Calls Tryz.prog 116 #[.pointer (some ⟨b,0,none⟩),.int .i64 2] u fun e v=>e= .returned (.int .i64 n)∧Rd w b s st' X f F v∧KeptB u.heap.size b u v:=h.numK 2 (by omega) (by omega) hn hm ha
theorem Rd.numK3 {w u:World}{b f:Nat}{s:ByteArray}{st st':Rc.St}{X F:Array Value}{n:Int}(h:Rd w b s st X f F u)(hn:Rc.numM true s.data.toList st 3=(n,st'))(hm:s.size≤1000000)(ha:st.at_≤2000000000):
 Calls Tryz.prog 116 #[.pointer (some ⟨b,0,none⟩),.int .i64 3] u fun e v=>e= .returned (.int .i64 n)∧Rd w b s st' X f F v∧KeptB u.heap.size b u v:=h.numK 3 (by omega) (by omega) hn hm ha
theorem Rd.numK6 {w u:World}{b f:Nat}{s:ByteArray}{st st':Rc.St}{X F:Array Value}{n:Int}(h:Rd w b s st X f F u)(hn:Rc.numM true s.data.toList st 6=(n,st'))(hm:s.size≤1000000)(ha:st.at_≤2000000000):
 Calls Tryz.prog 116 #[.pointer (some ⟨b,0,none⟩),.int .i64 6] u fun e v=>e= .returned (.int .i64 n)∧Rd w b s st' X f F v∧KeptB u.heap.size b u v:=h.numK 6 (by omega) (by omega) hn hm ha
theorem Rd.under {w u v:World}{b f:Nat}{s:ByteArray}{st:Rc.St}{X F:Array Value}(h:Rd w b s st X f F u)(hf:w.heap.size+1<f)(hb:Below (f+1) u v):Rd w b s st X f F v:=by
 have hw:=h.bw
 refine⟨(hb.block _ (by omega)).trans h.rd,(hb.block _ (by omega)).trans h.br,(hb.block _ (by omega)).trans h.bx,.inr ⟨hf,(hb.block _ (by omega)).trans (h.form (by omega))⟩,hw,h.kept.trans ⟨hb.os,hb.tape,hb.output,hb.size,fun k hk _=>hb.block k (by omega)⟩⟩
theorem ownRowSet {w:World}{B:Nat}{e:TypeId}{size n:Nat}{v:Value}{xs:List Value}(h:w.ownsRow B e size v n xs)(b:Nat)(cs:Array Value)(hb:b<B):(w.setRow b cs).ownsRow B e size v n xs:=by
 refine⟨h.1,?_⟩
 rcases h.2 with hz|⟨g,cap,cur,hv,hg,hh,r⟩
 ·exact .inl hz
 ·exact .inr ⟨g,cap,cur,hv,hg,by rw[heap_setRow_ne _ _ _ _ (by omega)];exact hh,r⟩
theorem info_txn:(Tryz.prog.info? 92).map (fun i=>(i.zero,i.size,i.bytes))=some (some (.agg #[(),(),(),false]),4,32):=by kernel_rfl
theorem info_dirty:(Tryz.prog.info? 94).map (fun i=>(i.zero,i.size,i.bytes))=some (some (.agg #[(),()]),2,16):=by kernel_rfl
theorem record_check (b:Nat)(s:ByteArray)(hm:s.size≤1000000)(s1:Rc.St)(h0:Rc.numM true s.data.toList ⟨0,false⟩ 1=(9,s1))(w:World)(hb:w.heap[b]? =some (.cells (rdC s 0 false) 133 (0,0))):
 Calls Tryz.prog 83 #[.pointer (some ⟨b,0,none⟩)] w (RecOut (Rc.readM true s.data.toList) b w):=by
 have hl:s.data.toList.length=s.size:=by simp
 have a1:s1.at_≤1:=Rc.numM_le h0
 have C0:=Hq (fun X f F u (hu:Rd w b s ⟨0,false⟩ X f F u)=>hu.num1 h0 hm (by show 0≤_;omega))
 rcases h1:Rc.numM true s.data.toList s1 6 with⟨lsn,s2⟩
 have a2:s2.at_≤s1.at_+6:=Rc.numM_le h1
 have C1:=Hq (fun X f F u (hu:Rd w b s s1 X f F u)=>hu.num6 h1 hm (by omega))
 rcases h2:Rc.numM true s.data.toList s2 6 with⟨prev,s3⟩
 have a3:s3.at_≤s2.at_+6:=Rc.numM_le h2
 have C2:=Hq (fun X f F u (hu:Rd w b s s2 X f F u)=>hu.num6 h2 hm (by omega))
 rcases h3:Rc.numM true s.data.toList s3 6 with⟨txn,s4⟩
 have a4:s4.at_≤s3.at_+6:=Rc.numM_le h3
 have C3:=Hq (fun X f F u (hu:Rd w b s s3 X f F u)=>hu.num6 h3 hm (by omega))
 rcases h4:Rc.numM true s.data.toList s4 6 with⟨nu,s5⟩
 have a5:s5.at_≤s4.at_+6:=Rc.numM_le h4
 have C4:=Hq (fun X f F u (hu:Rd w b s s4 X f F u)=>hu.num6 h4 hm (by omega))
 rcases h5:Rc.numM true s.data.toList s5 2 with⟨n1,s6⟩
 have a6:s6.at_≤s5.at_+2:=Rc.numM_le h5
 have C5:=Hq (fun X f F u (hu:Rd w b s s5 X f F u)=>hu.num2 h5 hm (by omega))
 have e0:Rc.headM true s.data.toList=(Rc.bare 9 lsn prev txn,s4):=by
  unfold Rc.headM;simp only[h0,h1,h2,h3]
 have p5:=Rc.numM_nat h5
 obtain⟨m1,rfl⟩:=Int.eq_ofNat_of_zero_le p5.1
 have hm1:m1≤65535:=by have:=p5.2;omega
 have a5b:s6.bad=false→s6.at_≤s.data.toList.length:=fun hb=>(Rc.numM_in h5 hb).1
 rcases hT:Rc.manyM (Rc.txnM true s.data.toList) m1 s6 with⟨TS,sT⟩
 have bT:=Rc.many_le (one:=Rc.txnM true s.data.toList) (l:=s.data.toList) (fun st h=>Rc.txn_step h) m1 s6 a5b (by omega)
 have hR0:Rc.Rest (Rc.txnM true s.data.toList) s.data.toList.length TS sT [] m1 s6:=⟨by rw[hT];rfl,by rw[hT],a5b,by omega⟩
 rw[hT]at bT
 have bT2:sT.at_≤s.data.toList.length+400:=bT.2.1
 rcases h6:Rc.numM true s.data.toList sT 2 with⟨n2,s7⟩
 have a7:s7.at_≤sT.at_+2:=Rc.numM_le h6
 have C6:=Hq (fun X f F u (hu:Rd w b s sT X f F u)=>hu.numK2 h6 hm (by omega))
 have p6:=Rc.numM_nat h6
 obtain⟨m2,rfl⟩:=Int.eq_ofNat_of_zero_le p6.1
 have hm2:m2≤65535:=by have:=p6.2;omega
 have a7b:s7.bad=false→s7.at_≤s.data.toList.length:=fun hb=>(Rc.numM_in h6 hb).1
 rcases hD:Rc.manyM (Rc.dirtyM true s.data.toList) m2 s7 with⟨DS,sD⟩
 have hR1:Rc.Rest (Rc.dirtyM true s.data.toList) s.data.toList.length DS sD [] m2 s7:=⟨by rw[hD];rfl,by rw[hD],a7b,by omega⟩
 have hTS:TS.length≤65535:=by have:=bT.2.2;simp only at this;omega
 have hDS:DS.length≤65535:=by
  have bD:(Rc.manyM (Rc.dirtyM true s.data.toList) m2 s7).1.length≤m2:=by
   cases hq:s7.bad with
   |true=>rw[Rc.many_bad hq];exact Nat.zero_le _
   |false=>exact(Rc.many_le (one:=Rc.dirtyM true s.data.toList) (l:=s.data.toList) (fun st h=>Rc.dirty_step h) m2 s7 a7b (by have:=a7b hq;omega)).2.2
  rw[hD]at bD
  simp only at bD
  omega
 have RD:Rc.readM true s.data.toList=⟨lsn,prev,txn,9,0,0,nu,Rc.noOp,0,0,Rc.noKey,TS,DS⟩:=by
  unfold Rc.readM
  rw[e0]
  show Rc.restM true _ (Rc.bare 9 lsn prev txn) s4=_
  rw[Rc.restM_9 rfl]
  unfold Rc.listsM
  simp only[h4,h5,Int.toNat_natCast,hT,h6,hD]
  rfl
 have HR0:=Hq hR0
 have HR1:=Hq hR1
 clear hT bT p5 p6 hD a5b a7b h6 a7 hR0 hR1
 have HOF:=Hq (fun W=>of_any 9 W)
 rw[show ofV 9= .tuple #[formV false false false true true,true]from rfl]at HOF
 have RDH:=Hq RD
 clear RD
 have HX:=Hq (rd_new (st:=⟨0,false⟩) hb)
 clear hb e0 h0 a1 h1 a2 h2 a3 h3 a4 h4 a5 h5 a6
 go_enter Tryz.func83,Tryz.ntmps83
 go_upto_region 2 with fail
 obtain⟨W0,hW0⟩:=ex ((w.alloc (.cells (rcA 0 0 0 0 0 0 0 0 0 ⟨#[]⟩ ⟨#[]⟩ 0 0 ⟨#[]⟩ 0 0 (.slice none 0 0) (.slice none 0 0)) 55)).alloc (.cells (rcA 0 0 0 0 0 0 0 0 0 ⟨#[]⟩ ⟨#[]⟩ 0 0 ⟨#[]⟩ 0 0 (.slice none 0 0) (.slice none 0 0)) 55))
 rw[← hW0]at HX ⊢
 clear hW0
 go_upto_region 3 with(first|(go_at_call 116;(with_reducible refine(C0.out _ _ _ _ HX.out).mono ?_);rintro e w1 ⟨rfl,hS1⟩;have hz1:=blkFrozen hS1.bx;have hy1:=blkCell hS1.bx))
 obtain⟨U1,hU1⟩:=ex (w1.setCell ⟨w.heap.size+1,3,none⟩ (.int .i64 9))
 have H1:Hid (Rd w b s s1 (rcA 0 0 0 9 0 0 0 0 0 ⟨#[]⟩ ⟨#[]⟩ 0 0 ⟨#[]⟩ 0 0 (.slice none 0 0) (.slice none 0 0)) w.heap.size #[] (w1.setCell ⟨w.heap.size+1,3,none⟩ (.int .i64 9))):=Hq (by have h:=(hS1.set 3 (.int .i64 9));first|exact h|simpa using h)
 rw[← hU1]at H1 ⊢
 clear hU1 hS1 hz1 hy1 HX
 have hcx:=blkCell H1.out.bx
 go_upto_region 4 with(go_at_call 117;(with_reducible refine(HOF.out _).mono ?_);rintro e w9 ⟨rfl,hb9⟩)
 have HF:=Hq ((H1.out.step hb9).formed #[false,false,false,true,true])
 have hf:w.heap.size+1<w9.heap.size:=by have h1:=H1.out.size;have h2:=hb9.size;omega
 obtain⟨f,hfe⟩:=ex w9.heap.size
 rw[← hfe]at HF hf ⊢
 obtain⟨WF,hWF⟩:=ex (w9.alloc (.cells #[false,false,false,true,true] 165))
 rw[← hWF]at HF ⊢
 clear hWF hfe hb9 hcx H1
 have hF:=blkCell (HF.out.form (by omega))
 go_upto_region 5 with(first|(go_at_call 116;(with_reducible refine(C1.out _ _ _ _ HF.out).mono ?_);rintro e w2 ⟨rfl,hS2⟩;have hz2:=blkFrozen hS2.bx;have hy2:=blkCell hS2.bx)|(go_at_call 116;(with_reducible refine(C2.out _ _ _ _ hS2).mono ?_);rintro e w3 ⟨rfl,hS3⟩;have hz3:=blkFrozen hS3.bx;have hy3:=blkCell hS3.bx)|(go_at_call 116;(with_reducible refine(C3.out _ _ _ _ hS3).mono ?_);rintro e w4 ⟨rfl,hS4⟩;have hz4:=blkFrozen hS4.bx;have hy4:=blkCell hS4.bx))
 obtain⟨U4,hU4⟩:=ex (((w4.setCell ⟨w.heap.size+1,0,none⟩ (.int .i64 lsn)).setCell ⟨w.heap.size+1,1,none⟩ (.int .i64 prev)).setCell ⟨w.heap.size+1,2,none⟩ (.int .i64 txn))
 have H4:Hid (Rd w b s s4 (rcA lsn prev txn 9 0 0 0 0 0 ⟨#[]⟩ ⟨#[]⟩ 0 0 ⟨#[]⟩ 0 0 (.slice none 0 0) (.slice none 0 0)) f #[false,false,false,true,true] (((w4.setCell ⟨w.heap.size+1,0,none⟩ (.int .i64 lsn)).setCell ⟨w.heap.size+1,1,none⟩ (.int .i64 prev)).setCell ⟨w.heap.size+1,2,none⟩ (.int .i64 txn))):=Hq (by have h:=(((hS4.set 0 (.int .i64 lsn)).set 1 (.int .i64 prev)).set 2 (.int .i64 txn));first|exact h|simpa using h)
 rw[← hU4]at H4 ⊢
 clear hU4 hS4 hz4 hy4 hS3 hz3 hy3 hS2 hz2 hy2 HF hF
 have hF:=blkCell (H4.out.form (by omega))
 go_upto_region 18 with(first|(go_at_call 116;(with_reducible refine(C4.out _ _ _ _ H4.out).mono ?_);rintro e w5 ⟨rfl,hS5⟩;have hz5:=blkFrozen hS5.bx;have hy5:=blkCell hS5.bx))
 obtain⟨U5,hU5⟩:=ex (w5.setCell ⟨w.heap.size+1,6,none⟩ (.int .i64 nu))
 have H5:Hid (Rd w b s s5 (rcA lsn prev txn 9 0 0 nu 0 0 ⟨#[]⟩ ⟨#[]⟩ 0 0 ⟨#[]⟩ 0 0 (.slice none 0 0) (.slice none 0 0)) f #[false,false,false,true,true] (w5.setCell ⟨w.heap.size+1,6,none⟩ (.int .i64 nu))):=Hq (by have h:=(hS5.set 6 (.int .i64 nu));first|exact h|simpa using h)
 rw[← hU5]at H5 ⊢
 clear hU5 hS5 hz5 hy5 H4 hF
 go_upto_block 0 with(go_at_call 116;(with_reducible refine(C5.out _ _ _ _ H5.out).mono ?_);rintro e w8 ⟨rfl,hS8⟩)
 have HS8:=Hq hS8
 clear hS8 H5
 go_cut [] (fun wc=>∃ v,Rd w b s sT (rcA lsn prev txn 9 0 0 nu 0 0 ⟨#[]⟩ ⟨#[]⟩ 0 0 ⟨#[]⟩ 0 0 (v) (.slice none 0 0)) f #[false,false,false,true,true] wc∧OwnL txC 4 92 (f+1) wc v TS)
 case first=>
  go_wp2_with fail
  go_loopw [6] (fun i wr=>∃ (m:Nat) (ts:List Rc.TxnAt) (st:Rc.St) (v:Value),i= .int .i64 (m:Int)∧ts.length+m≤65535∧Rc.Rest (Rc.txnM true s.data.toList) s.data.toList.length TS sT ts m st∧Rd w b s st (rcA lsn prev txn 9 0 0 nu 0 0 ⟨#[]⟩ ⟨#[]⟩ 0 0 ⟨#[]⟩ 0 0 (v) (.slice none 0 0)) f #[false,false,false,true,true] wr∧OwnL txC 4 92 (f+1) wr v ts) (fun i _=>(intOf i).toNat)
  case atStart=>exact⟨m1,[],s6,.slice none 0 0,rfl,by simp;omega,HR0.out,HS8.out,ownNil _ _ _ _⟩
  case round=>
   obtain⟨m,ts,st,v,rfl,hlen,hR,hS,hO⟩:=hrel
   have HR:=Hq hR
   have HS:=Hq hS
   have HO:=Hq hO
   clear hR hS hO
   by_cases h0:m=0
   ·subst h0
    obtain⟨e1,e2⟩:=HR.out.stop
    subst e1 e2
    go_wp2_with fail
    go_meet
    case rel=>exact⟨v,HS.out,HO.out⟩
   have hm0:(0:Int)<(m:Int):=by omega
   have hmN:0<m:=by omega
   cases hbad:st.bad with
   |true=>
    obtain⟨e1,e2⟩:=HR.out.bad hbad
    have hcr:=blkCell HS.out.rd
    rw[hbad]at hcr
    have HBD:=Hq hbad
    subst e1 e2
    clear hbad h0 hmN
    go_wp2_with fail
    go_meet
    case rel=>exact⟨v,HS.out,HO.out⟩
   |false=>
    have hin:=HR.out.inn hbad
    have hcr:=blkCell HS.out.rd
    rw[hbad]at hcr
    rcases hta:Rc.numM true s.data.toList st 6 with⟨ta,sta⟩
    have ata:sta.at_≤st.at_+6:=Rc.numM_le hta
    have Cta:=Hq (fun X f F u (hu:Rd w b s st X f F u)=>hu.numK6 hta hm (by omega))
    rcases htb:Rc.numM true s.data.toList sta 6 with⟨tb,stb⟩
    have atb:stb.at_≤sta.at_+6:=Rc.numM_le htb
    have Ctb:=Hq (fun X f F u (hu:Rd w b s sta X f F u)=>hu.numK6 htb hm (by omega))
    rcases htc:Rc.numM true s.data.toList stb 6 with⟨tc,stc⟩
    have atc:stc.at_≤stb.at_+6:=Rc.numM_le htc
    have Ctc:=Hq (fun X f F u (hu:Rd w b s stb X f F u)=>hu.numK6 htc hm (by omega))
    rcases htd:Rc.numM true s.data.toList stc 1 with⟨td,std⟩
    have atd:std.at_≤stc.at_+1:=Rc.numM_le htd
    have Ctd:=Hq (fun X f F u (hu:Rd w b s stc X f F u)=>hu.numK1 htd hm (by omega))
    have hone:Rc.txnM true s.data.toList st=(⟨ta,tb,tc,td==1⟩,std):=by unfold Rc.txnM;simp only[hta,htb,htc,htd]
    have hst:=Rc.txn_step hin
    rw[hone]at hst
    have HN:=Hq (HR.out.next hmN hbad hone hst.1 hst.2)
    clear hone hst hbad hin h0 HR hta ata htb atb htc atc htd atd
    obtain⟨A,c,rfl⟩:=ownLen HO.out
    go_upto_region 21 with fail
    clear hcr
    have HSd:=Hq HS.out.drew
    have hO0:=ownBelow HO.out (Below.refl _ wr).drew
    refine wp_region_Z (S:=(fun u=>u.heap[w.heap.size+1]? =some (.cells (rcA lsn prev txn 9 0 0 nu 0 0 ⟨#[]⟩ ⟨#[]⟩ 0 0 ⟨#[]⟩ 0 0 ((.slice A ts.length c)) (.slice none 0 0)) 55 (0,0)))) 15 Kr ?_ (fun hHeld=>?_)
    ·first|exact hSn|exact HSd.out.bx
    refine tzP 0 [15] ?_
    refine tzP 1 [15] ?_
    refine tzP 2 [15] ?_
    refine tzP 4 [15] ?_
    refine tzP 6 [15] ?_
    refine tzP 8 [15] ?_
    refine wpAnyZ_ready (rs:=[3]) Kr (by simp) ?_
    refine AllReadyZ.cons (o:={dst:=some 89,op:=_,type:=_,pos:=_,after:=_,guard:=_}) rfl (fun K hK=>?_) ?_
    rotate_left
    ·exact AllReadyZ.nil
    go_simp
    (with_reducible refine(Cta.out _ _ _ _ HSd.out).mono ?_);rintro e w1 ⟨rfl,hS1,hk1⟩;have hSn:=hS1.bx;have hO1:=ownKept hO0 (by have:=HS.out.bw;omega) hk1;try go_simp
    refine hKo hK (fun hHeld=>?_) (by first|exact hSn|exact HSd.out.bx)
    clear hK K
    refine wpAnyZ_ready (rs:=[5]) Kr (by simp) ?_
    refine AllReadyZ.cons (o:={dst:=some 91,op:=_,type:=_,pos:=_,after:=_,guard:=_}) rfl (fun K hK=>?_) ?_
    rotate_left
    ·exact AllReadyZ.nil
    go_simp
    (with_reducible refine(Ctb.out _ _ _ _ hS1).mono ?_);rintro e w2 ⟨rfl,hS2,hk2⟩;have hSn:=hS2.bx;have hO2:=ownKept hO1 (by have:=HS.out.bw;omega) hk2;try go_simp
    refine hKo hK (fun hHeld=>?_) (by first|exact hSn|exact HSd.out.bx)
    clear hK K
    refine wpAnyZ_ready (rs:=[7]) Kr (by simp) ?_
    refine AllReadyZ.cons (o:={dst:=some 93,op:=_,type:=_,pos:=_,after:=_,guard:=_}) rfl (fun K hK=>?_) ?_
    rotate_left
    ·exact AllReadyZ.nil
    go_simp
    (with_reducible refine(Ctc.out _ _ _ _ hS2).mono ?_);rintro e w3 ⟨rfl,hS3,hk3⟩;have hSn:=hS3.bx;have hO3:=ownKept hO2 (by have:=HS.out.bw;omega) hk3;try go_simp
    refine hKo hK (fun hHeld=>?_) (by first|exact hSn|exact HSd.out.bx)
    clear hK K
    refine wpAnyZ_ready (rs:=[9]) Kr (by simp) ?_
    refine AllReadyZ.cons (o:={dst:=some 95,op:=_,type:=_,pos:=_,after:=_,guard:=_}) rfl (fun K hK=>?_) ?_
    rotate_left
    ·exact AllReadyZ.nil
    go_simp
    (with_reducible refine(Ctd.out _ _ _ _ hS3).mono ?_);rintro e w4 ⟨rfl,hS4,hk4⟩;have hSn:=hS4.bx;have hO4:=ownKept hO3 (by have:=HS.out.bw;omega) hk4;try go_simp
    refine hKo hK (fun hHeld=>?_) (by first|exact hSn|exact HSd.out.bx)
    clear hK K
    refine tzP 10 [15] ?_
    refine tzP 11 [15] ?_
    refine wpAnyZ_ready (rs:=[12]) Kr (by simp) ?_
    refine AllReadyZ.cons (o:={dst:=some 98,op:=_,type:=_,pos:=_,after:=_,guard:=_}) rfl (fun K hK=>?_) ?_
    rotate_left
    ·exact AllReadyZ.nil
    go_simp
    have hS9:=hS4.step (allocB w4 (.cells #[ta,tb,tc,.bool (td==1)] 92));have hSn:=hS9.bx;have hO9:=ownBelow hO4 (allocB w4 (.cells #[ta,tb,tc,.bool (td==1)] 92));have hG:=heap_alloc_new w4 (.cells #[ta,tb,tc,.bool (td==1)] 92)
    refine hKo hK (fun hHeld=>?_) (by first|exact hSn|exact HSd.out.bx)
    clear hK K
    refine wpAnyZ_ready (rs:=[13]) Kr (by simp) ?_
    refine AllReadyZ.cons (o:={dst:=some 99,op:=_,type:=_,pos:=_,after:=_,guard:=_}) rfl (fun K hK=>?_) ?_
    rotate_left
    ·exact AllReadyZ.nil
    refine wantedIf (by rfl) ?_
    refine wp_push _ (.tmp 87) (.tmp 98) 35 92 Tryz.underlying35 info_txn rfl (by omega) (by omega) rfl (f+1) _ ts.length (ts.flatMap txC) rfl hO9 w4.heap.size (txC ⟨ta,tb,tc,td==1⟩) 92 rfl hG rfl (by simp[txC,Value.oneCell']) (by omega) (by have h1:=heapLt (hS9.form (by omega));omega) ?_
    intro v7 w7 ho hg hb
    obtain⟨A7,c7,rfl⟩:=ownLen ho
    have hS7:=hS9.under hf hb
    have hSn:=hS7.bx
    have hcx7:=blkCell hS7.bx
    have hz7:=blkFrozen hS7.bx
    refine hKo hK (fun hHeld=>?_) (by first|exact hSn|exact HSd.out.bx)
    clear hK K
    refine tzP 14 [15] ?_
    refine wpAnyZ_ready (rs:=[15]) Kr (by simp) ?_
    refine AllReadyZ.last (o:={dst:=none,op:=_,type:=_,pos:=_,after:=_,guard:=_}) rfl Kr (fun K hK=>?_) ?_
    rotate_left
    ·exact AllReadyZ.nil
    go_simp
    refine hK.out _ _ ?_
    clear hK K
    try simp only[Act.put,pS]
    refine wpAnyZ_done Kr ?_ _
    have HS6:=Hq (hS7.set 16 (.slice A7 (ts.length+1) c7))
    have HO6:=Hq (ownSet (OwnL.push (enc:=txC) ho) ⟨w.heap.size+1,16,none⟩ (.slice A7 (ts.length+1) c7) (by show w.heap.size+1<f+1;omega))
    have hwm:IntKind.i64.wrap ((m:Int)-1)=(m:Int)-1:=IntWalk.i64_in _ (by omega)
    go_wp2_with fail
    go_roundw
    case rel=>exact⟨m-1,ts++[⟨ta,tb,tc,td==1⟩],std,_,congrArg (Value.int .i64) (by omega),by rw[List.length_append,List.length_singleton];omega,HN.out,(by have h:=HS6.out;first|exact h|simpa using h),(by have h:=HO6.out;first|exact h|simpa using h)⟩
    case measure=>simp[intOf];omega
 case rest=>
 obtain⟨v,hS,hO⟩:=hcut
 obtain⟨AT,cT,rfl⟩:=ownLen hO
 obtain⟨wa,rfl⟩:=ex wc
 have HSa:=Hq hS
 have HOa:=Hq hO
 clear hS hO HS8 HR0
 go_upto_block 2 with(go_at_call 116;(with_reducible refine(C6.out _ _ _ _ HSa.out).mono ?_);rintro e wb ⟨rfl,hSb,hkb⟩)
 have HSb:=Hq hSb
 have HOb:=Hq (ownKept HOa.out (by have:=HSa.out.bw;omega) hkb)
 clear hSb hkb HSa HOa
 go_cut [] (fun wc=>∃ v,Rd w b s sD (rcA lsn prev txn 9 0 0 nu 0 0 ⟨#[]⟩ ⟨#[]⟩ 0 0 ⟨#[]⟩ 0 0 (.slice AT TS.length cT) (v)) f #[false,false,false,true,true] wc∧OwnL diC 2 94 (f+1) wc v DS∧OwnL txC 4 92 (f+1) wc (.slice AT TS.length cT) TS)
 case first=>
  go_wp2_with fail
  go_loopw [7] (fun i wr=>∃ (m:Nat) (ts:List Rc.DirtyAt) (st:Rc.St) (v:Value),i= .int .i64 (m:Int)∧ts.length+m≤65535∧Rc.Rest (Rc.dirtyM true s.data.toList) s.data.toList.length DS sD ts m st∧Rd w b s st (rcA lsn prev txn 9 0 0 nu 0 0 ⟨#[]⟩ ⟨#[]⟩ 0 0 ⟨#[]⟩ 0 0 (.slice AT TS.length cT) (v)) f #[false,false,false,true,true] wr∧OwnL diC 2 94 (f+1) wr v ts∧OwnL txC 4 92 (f+1) wr (.slice AT TS.length cT) TS) (fun i _=>(intOf i).toNat)
  case atStart=>exact⟨m2,[],s7,.slice none 0 0,rfl,by simp;omega,HR1.out,HSb.out,ownNil _ _ _ _,HOb.out⟩
  case round=>
   obtain⟨m,ts,st,v,rfl,hlen,hR,hS,hO,hE⟩:=hrel
   have HR:=Hq hR
   have HS:=Hq hS
   have HO:=Hq hO
   have HE:=Hq hE
   clear hR hS hO hE
   by_cases h0:m=0
   ·subst h0
    obtain⟨e1,e2⟩:=HR.out.stop
    subst e1 e2
    go_wp2_with fail
    go_meet
    case rel=>exact⟨v,HS.out,HO.out,HE.out⟩
   have hm0:(0:Int)<(m:Int):=by omega
   have hmN:0<m:=by omega
   cases hbad:st.bad with
   |true=>
    obtain⟨e1,e2⟩:=HR.out.bad hbad
    have hcr:=blkCell HS.out.rd
    rw[hbad]at hcr
    have HBD:=Hq hbad
    subst e1 e2
    clear hbad h0 hmN
    go_wp2_with fail
    go_meet
    case rel=>exact⟨v,HS.out,HO.out,HE.out⟩
   |false=>
    have hin:=HR.out.inn hbad
    have hcr:=blkCell HS.out.rd
    rw[hbad]at hcr
    rcases hda:Rc.numM true s.data.toList st 3 with⟨da,sda⟩
    have ada:sda.at_≤st.at_+3:=Rc.numM_le hda
    have Cda:=Hq (fun X f F u (hu:Rd w b s st X f F u)=>hu.numK3 hda hm (by omega))
    rcases hdb:Rc.numM true s.data.toList sda 6 with⟨db,sdb⟩
    have adb:sdb.at_≤sda.at_+6:=Rc.numM_le hdb
    have Cdb:=Hq (fun X f F u (hu:Rd w b s sda X f F u)=>hu.numK6 hdb hm (by omega))
    have hone:Rc.dirtyM true s.data.toList st=(⟨da,db⟩,sdb):=by unfold Rc.dirtyM;simp only[hda,hdb]
    have hst:=Rc.dirty_step hin
    rw[hone]at hst
    have HN:=Hq (HR.out.next hmN hbad hone hst.1 hst.2)
    clear hone hst hbad hin h0 HR hda ada hdb adb
    obtain⟨A,c,rfl⟩:=ownLen HO.out
    go_upto_region 25 with fail
    clear hcr
    have HSd:=Hq HS.out.drew
    have hO0:=ownBelow HO.out (Below.refl _ wr).drew
    have hE0:=ownBelow HE.out (Below.refl _ wr).drew
    refine wp_region_Z (S:=(fun u=>u.heap[w.heap.size+1]? =some (.cells (rcA lsn prev txn 9 0 0 nu 0 0 ⟨#[]⟩ ⟨#[]⟩ 0 0 ⟨#[]⟩ 0 0 (.slice AT TS.length cT) ((.slice A ts.length c))) 55 (0,0)))) 10 Kr ?_ (fun hHeld=>?_)
    ·first|exact hSn|exact HSd.out.bx
    refine tzP 0 [10] ?_
    refine tzP 1 [10] ?_
    refine tzP 2 [10] ?_
    refine tzP 4 [10] ?_
    refine wpAnyZ_ready (rs:=[3]) Kr (by simp) ?_
    refine AllReadyZ.cons (o:={dst:=some 117,op:=_,type:=_,pos:=_,after:=_,guard:=_}) rfl (fun K hK=>?_) ?_
    rotate_left
    ·exact AllReadyZ.nil
    go_simp
    (with_reducible refine(Cda.out _ _ _ _ HSd.out).mono ?_);rintro e w1 ⟨rfl,hS1,hk1⟩;have hSn:=hS1.bx;have hO1:=ownKept hO0 (by have:=HS.out.bw;omega) hk1;have hE1:=ownKept hE0 (by have:=HS.out.bw;omega) hk1;try go_simp
    refine hKo hK (fun hHeld=>?_) (by first|exact hSn|exact HSd.out.bx)
    clear hK K
    refine wpAnyZ_ready (rs:=[5]) Kr (by simp) ?_
    refine AllReadyZ.cons (o:={dst:=some 119,op:=_,type:=_,pos:=_,after:=_,guard:=_}) rfl (fun K hK=>?_) ?_
    rotate_left
    ·exact AllReadyZ.nil
    go_simp
    (with_reducible refine(Cdb.out _ _ _ _ hS1).mono ?_);rintro e w2 ⟨rfl,hS2,hk2⟩;have hSn:=hS2.bx;have hO2:=ownKept hO1 (by have:=HS.out.bw;omega) hk2;have hE2:=ownKept hE1 (by have:=HS.out.bw;omega) hk2;try go_simp
    refine hKo hK (fun hHeld=>?_) (by first|exact hSn|exact HSd.out.bx)
    clear hK K
    refine tzP 6 [10] ?_
    refine wpAnyZ_ready (rs:=[7]) Kr (by simp) ?_
    refine AllReadyZ.cons (o:={dst:=some 121,op:=_,type:=_,pos:=_,after:=_,guard:=_}) rfl (fun K hK=>?_) ?_
    rotate_left
    ·exact AllReadyZ.nil
    go_simp
    have hS9:=hS2.step (allocB w2 (.cells #[da,db] 94));have hSn:=hS9.bx;have hO9:=ownBelow hO2 (allocB w2 (.cells #[da,db] 94));have hG:=heap_alloc_new w2 (.cells #[da,db] 94);have hE9:=ownBelow hE2 (allocB w2 (.cells #[da,db] 94))
    refine hKo hK (fun hHeld=>?_) (by first|exact hSn|exact HSd.out.bx)
    clear hK K
    refine wpAnyZ_ready (rs:=[8]) Kr (by simp) ?_
    refine AllReadyZ.cons (o:={dst:=some 122,op:=_,type:=_,pos:=_,after:=_,guard:=_}) rfl (fun K hK=>?_) ?_
    rotate_left
    ·exact AllReadyZ.nil
    refine wantedIf (by rfl) ?_
    refine wp_push _ (.tmp 115) (.tmp 121) 53 94 Tryz.underlying53 info_dirty rfl (by omega) (by omega) rfl (f+1) _ ts.length (ts.flatMap diC) rfl hO9 w2.heap.size (diC ⟨da,db⟩) 94 rfl hG rfl (by simp[diC,Value.oneCell']) (by omega) (by have h1:=heapLt (hS9.form (by omega));omega) ?_
    intro v7 w7 ho hg hb
    obtain⟨A7,c7,rfl⟩:=ownLen ho
    have hS7:=hS9.under hf hb
    have hSn:=hS7.bx
    have hcx7:=blkCell hS7.bx
    have hz7:=blkFrozen hS7.bx
    have hE7:=ownGrown hE9 hO9 (by decide) hg
    refine hKo hK (fun hHeld=>?_) (by first|exact hSn|exact HSd.out.bx)
    clear hK K
    refine tzP 9 [10] ?_
    refine wpAnyZ_ready (rs:=[10]) Kr (by simp) ?_
    refine AllReadyZ.last (o:={dst:=none,op:=_,type:=_,pos:=_,after:=_,guard:=_}) rfl Kr (fun K hK=>?_) ?_
    rotate_left
    ·exact AllReadyZ.nil
    go_simp
    refine hK.out _ _ ?_
    clear hK K
    try simp only[Act.put,pS]
    refine wpAnyZ_done Kr ?_ _
    have HS6:=Hq (hS7.set 17 (.slice A7 (ts.length+1) c7))
    have HO6:=Hq (ownSet (OwnL.push (enc:=diC) ho) ⟨w.heap.size+1,17,none⟩ (.slice A7 (ts.length+1) c7) (by show w.heap.size+1<f+1;omega))
    have HE6:=Hq (ownSet hE7 ⟨w.heap.size+1,17,none⟩ (.slice A7 (ts.length+1) c7) (by show w.heap.size+1<f+1;omega))
    have hwm:IntKind.i64.wrap ((m:Int)-1)=(m:Int)-1:=IntWalk.i64_in _ (by omega)
    go_wp2_with fail
    go_roundw
    case rel=>exact⟨m-1,ts++[⟨da,db⟩],sdb,_,congrArg (Value.int .i64) (by omega),by rw[List.length_append,List.length_singleton];omega,HN.out,(by have h:=HS6.out;first|exact h|simpa using h),(by have h:=HO6.out;first|exact h|simpa using h),(by have h:=HE6.out;first|exact h|simpa using h)⟩
    case measure=>simp[intOf];omega
 case rest=>
 obtain⟨v,hS,hO,hE⟩:=hcut
 obtain⟨AD,cD,rfl⟩:=ownLen hO
 obtain⟨wz,rfl⟩:=ex wc
 have HSz:=Hq hS
 have HOz:=Hq hO
 have HEz:=Hq hE
 clear hS hO hE HSb HOb HR1
 go_wp2_with (first|(with_reducible refine lL HSz.out.bx Tryz.underlying55 ?_)|(with_reducible refine lS (rcA lsn prev txn 9 0 0 nu 0 0 ⟨#[]⟩ ⟨#[]⟩ 0 0 ⟨#[]⟩ 0 0 (.slice AT TS.length cT) (.slice AD DS.length cD)) HSz.out.br ?_))
 refine bodyPost_ret (v:=.agg (rcA lsn prev txn 9 0 0 nu 0 0 ⟨#[]⟩ ⟨#[]⟩ 0 0 ⟨#[]⟩ 0 0 (.slice AT TS.length cT) (.slice AD DS.length cD))) (results_cell rfl _ _ rfl (load_whole HSz.out.done.1 Tryz.underlying55 Kr Kr)) rfl ?_
 rw[RDH.out]
 exact⟨AT,cT,AD,cD,rfl,⟨⟨own_reads (ownRowSet HEz.out _ _ (by omega)),own_reads (ownRowSet HOz.out _ _ (by omega)),⟨Nat.le_trans hTS (by omega),Nat.le_trans hDS (by omega)⟩⟩,(NewT.own (ownRowSet HEz.out _ _ (by omega))).mono (by omega),(NewT.own (ownRowSet HOz.out _ _ (by omega))).mono (by omega)⟩,HSz.out.done.2⟩
theorem record_any (b:Nat)(s:ByteArray)(hm:s.size≤1000000)(w:World)(hb:w.heap[b]? =some (.cells (rdC s 0 false) 133 (0,0))):
 Calls Tryz.prog 83 #[.pointer (some ⟨b,0,none⟩)] w (RecOut (Rc.readM true s.data.toList) b w):=by
 rcases h0:Rc.numM true s.data.toList ⟨0,false⟩ 1 with⟨kd,s1⟩
 by_cases k2:kd=2
 ·subst k2;exact record_change b s hm s1 h0 w hb
 by_cases k3:kd=3
 ·subst k3;exact record_clr b s hm s1 h0 w hb
 by_cases k4:kd=4
 ·subst k4;exact record_nest b s hm s1 h0 w hb
 by_cases k8:kd=8
 ·subst k8;exact record_image b s hm s1 h0 w hb
 by_cases k9:kd=9
 ·subst k9;exact record_check b s hm s1 h0 w hb
 exact record_other b s hm s1 kd k2 k3 k4 k8 k9 h0 w hb
end Go.Proofs.YtilakddepaplhaaGreat
namespace Lg
theorem getO_short {s:List UInt8}{a:Nat}(h:s.length<a+8∨s.length<a+8+Oct.getN s a 4):getO s a=none:=
 getO_no fun hI=>by have:=hI.1;omega
theorem getO_sum {s:List UInt8}{a:Nat}(h:Oct.getN s (a+4) 4≠Oct.sumN (bodyAt s a)):getO s a=none:=getO_no fun hI=>h hI.2.1
theorem getO_wrong {s:List UInt8}{a:Nat}(h:¬ Rc.Right (Rc.readM true (bodyAt s a))):getO s a=none:=getO_no fun hI=>h hI.2.2.1
theorem getO_other {s:List UInt8}{a:Nat}(h:Rc.bodyB (Rc.readM true (bodyAt s a))≠bodyAt s a):getO s a=none:=getO_no fun hI=>h hI.2.2.2
end Lg
namespace Go.Proofs.YtilakddepaplhaaGreat
open Go.RowKit
def GetOut (o:Option (Rc.Rec×Nat))(w:World)(e:Ending)(w':World):Prop:=
 Below w.heap.size w w'∧match o with
 |some (r,n)=>∃ A c B d,e= .returned (.tuple #[recV r (.slice A r.txns.length c) (.slice B r.dirty.length d),.int .i64 (n:Int),()])∧RecN w.heap.size w' r A c B d
 |none=>∃ k:Int,k≠0∧e= .returned (.tuple #[.agg zeroA,(),k])
theorem get_none {o:Option (Rc.Rec×Nat)}{w w':World}(h:o=none)(hb:Below w.heap.size w w')(k:Int)(hk:k≠0):GetOut o w (.returned (.tuple #[.agg zeroA,(),k])) w':=by
 subst h;exact⟨hb,k,hk,rfl⟩
theorem str_neq {a b:ByteArray}(h:a≠b):(a.toList != b.toList)=true:=by
 simp only[bne_iff_ne,ne_eq]
 intro e
 apply h
 rw[ByteArray.toList_eq,ByteArray.toList_eq]at e
 exact ByteArray.ext (Array.toList_inj.1 e)
theorem below_row {w u:World}(hb:Below w.heap.size w u)(cs:Array Value):Below w.heap.size w (u.setRow w.heap.size cs):=
 ⟨hb.os,hb.tape,hb.output,by show _≤(u.heap.modify _ _).size;have:=hb.size;simpa using this,fun k hk=>(heap_setRow_ne _ _ _ _ (by omega)).trans (hb.block k hk)⟩
theorem extract_drop (s:ByteArray)(a:Nat):(s.extract a s.size).data.toList=s.data.toList.drop a:=by
 simp only[ByteArray.data_extract,Array.toList_extract,List.extract_eq_take_drop]
 exact List.take_of_length_le (by simp)
theorem get_there (s:ByteArray)(a:Nat){n:Nat}(_hx:a+4≤s.size)(hn:Oct.getN s.data.toList a 4=n):Oct.intOf (Oct.getN (s.extract a s.size).data.toList 0 4)=(n:Int):=by
 have h0:Oct.getN (s.extract a s.size).data.toList 0 4=n:=by
  rw[extract_drop,← hn];unfold Oct.getN;rw[List.drop_zero]
 have h1:=getN_small s.data.toList a 4
 rw[h0]
 unfold Oct.intOf
 rw[if_pos (by have:(256:Nat)^4=4294967296:=rfl;omega)]
theorem get_far (s:ByteArray)(a:Int)(hm:s.size≤1000000)(ha:a<0∨(s.size:Int)<a)(o:Option (Rc.Rec×Nat))(ho:o=none)(w:World):
 Calls Tryz.prog 43 #[s,a] w (GetOut o w):=by
 have HN:=Hq ho
 clear ho
 have HZ:=Hq (heap_alloc_new w (.cells (rcA 0 0 0 0 0 0 0 0 0 ⟨#[]⟩ ⟨#[]⟩ 0 0 ⟨#[]⟩ 0 0 (.slice none 0 0) (.slice none 0 0)) 55))
 rcases ha with ha|ha
 ·go_enter Tryz.func43,Tryz.ntmps43
  go_wp2_with (first|(with_reducible refine lS (rcA 0 0 0 0 0 0 0 0 0 ⟨#[]⟩ ⟨#[]⟩ 0 0 ⟨#[]⟩ 0 0 (.slice none 0 0) (.slice none 0 0)) HZ.out ?_))
  refine bodyPost_ret (v:=.tuple #[.agg (rcA 0 0 0 0 0 0 0 0 0 ⟨#[]⟩ ⟨#[]⟩ 0 0 ⟨#[]⟩ 0 0 (.slice none 0 0) (.slice none 0 0)),(),.int .i64 1]) (results_cell3 rfl _ _ rfl (load_whole (setRow_heap _ _ _ _ _ _ HZ.out) Tryz.underlying55 Kr Kr) rfl rfl) rfl ?_
  exact get_none HN.out (below_row (allocB _ _) _) 1 (by omega)
 ·have h0:¬ a<0:=by omega
  go_enter Tryz.func43,Tryz.ntmps43
  go_wp2_with (first|(with_reducible refine lS (rcA 0 0 0 0 0 0 0 0 0 ⟨#[]⟩ ⟨#[]⟩ 0 0 ⟨#[]⟩ 0 0 (.slice none 0 0) (.slice none 0 0)) HZ.out ?_))
  refine bodyPost_ret (v:=.tuple #[.agg (rcA 0 0 0 0 0 0 0 0 0 ⟨#[]⟩ ⟨#[]⟩ 0 0 ⟨#[]⟩ 0 0 (.slice none 0 0) (.slice none 0 0)),(),.int .i64 1]) (results_cell3 rfl _ _ rfl (load_whole (setRow_heap _ _ _ _ _ _ HZ.out) Tryz.underlying55 Kr Kr) rfl rfl) rfl ?_
  exact get_none HN.out (below_row (allocB _ _) _) 1 (by omega)
theorem get_short4 (s:ByteArray)(a:Nat)(_hm:s.size≤1000000)(ha:a≤s.size)(h4:s.size<a+4)(o:Option (Rc.Rec×Nat))(ho:o=none)(w:World):
 Calls Tryz.prog 43 #[s,.int .i64 (a:Int)] w (GetOut o w):=by
 have HN:=Hq ho
 have HG:=Hq (fun W=>get_no (s.extract a s.size) 0 4 (by rw[ByteArray.size_extract];omega) (by omega) (by omega) (by unfold Oct.there;rw[ByteArray.size_extract];simp;omega) W)
 have h1:¬ (a:Int)<0:=by omega
 have h2:(a:Int)≤(s.size:Int):=by omega
 have HZ:=Hq (heap_alloc_new w (.cells (rcA 0 0 0 0 0 0 0 0 0 ⟨#[]⟩ ⟨#[]⟩ 0 0 ⟨#[]⟩ 0 0 (.slice none 0 0) (.slice none 0 0)) 55))
 clear ho h4
 go_enter Tryz.func43,Tryz.ntmps43
 go_wp2_with (first|(go_at_call 38;refine(HG.out _).mono ?_;rintro e w1 ⟨rfl,rfl⟩)|(with_reducible refine lS (rcA 0 0 0 0 0 0 0 0 0 ⟨#[]⟩ ⟨#[]⟩ 0 0 ⟨#[]⟩ 0 0 (.slice none 0 0) (.slice none 0 0)) HZ.out ?_))
 refine bodyPost_ret (v:=.tuple #[.agg (rcA 0 0 0 0 0 0 0 0 0 ⟨#[]⟩ ⟨#[]⟩ 0 0 ⟨#[]⟩ 0 0 (.slice none 0 0) (.slice none 0 0)),(),.int .i64 3]) (results_cell3 rfl _ _ rfl (load_whole (setRow_heap _ _ _ _ _ _ HZ.out) Tryz.underlying55 Kr Kr) rfl rfl) rfl ?_
 exact get_none HN.out (below_row (allocB _ _) _) 3 (by omega)
theorem get_short8 (s:ByteArray)(a n:Nat)(hm:s.size≤1000000)(hx:a+4≤s.size)(hn:Oct.getN s.data.toList a 4=n)(h8:s.size<a+8∨s.size<a+8+n)(o:Option (Rc.Rec×Nat))(ho:o=none)(w:World):
 Calls Tryz.prog 43 #[s,.int .i64 (a:Int)] w (GetOut o w):=by
 have HN:=Hq ho
 have hsx:(s.extract a s.size).size=s.size-a:=by rw[ByteArray.size_extract];omega
 have HG:=Hq (fun W=>get_yes (s.extract a s.size) 0 4 (by omega) (by omega) (by omega) (by omega) W)
 rw[get_there s a hx hn]at HG
 have h1:¬ (a:Int)<0:=by omega
 have h2:(a:Int)≤(s.size:Int):=by omega
 have HZ:=Hq (heap_alloc_new w (.cells (rcA 0 0 0 0 0 0 0 0 0 ⟨#[]⟩ ⟨#[]⟩ 0 0 ⟨#[]⟩ 0 0 (.slice none 0 0) (.slice none 0 0)) 55))
 clear ho hn
 obtain⟨t,ht⟩:=ex (s.size-a:Nat)
 rw[← ht]at hsx
 generalize hxe:s.extract a s.size=x at hsx HG
 by_cases hs8:t<8
 ·have h3:(x.size:Int)<8:=by omega
  have h3n:x.size<8:=by omega
  clear hsx ht h8
  go_enter Tryz.func43,Tryz.ntmps43
  go_upto_region 4 with fail
  try rw[hxe]
  clear hxe
  go_wp2_with (first|(go_at_call 38;refine(HG.out _).mono ?_;rintro e w1 ⟨rfl,hb1⟩;have HZ1:=blkNew hb1;have HB1:=joinB (allocB _ _) hb1)|(with_reducible refine lS (rcA 0 0 0 0 0 0 0 0 0 ⟨#[]⟩ ⟨#[]⟩ 0 0 ⟨#[]⟩ 0 0 (.slice none 0 0) (.slice none 0 0)) HZ1 ?_))
  refine bodyPost_ret (v:=.tuple #[.agg (rcA 0 0 0 0 0 0 0 0 0 ⟨#[]⟩ ⟨#[]⟩ 0 0 ⟨#[]⟩ 0 0 (.slice none 0 0) (.slice none 0 0)),(),.int .i64 3]) (results_cell3 rfl _ _ rfl (load_whole (setRow_heap _ _ _ _ _ _ HZ1) Tryz.underlying55 Kr Kr) rfl rfl) rfl ?_
  exact get_none HN.out (below_row HB1 _) 3 (by omega)
 ·have h3:¬ (x.size:Int)<8:=by omega
  have h3n:¬ x.size<8:=by omega
  have h4:(x.size:Int)-8<(n:Int):=by omega
  have w8:IntKind.i64.wrap ((x.size:Int)-8)=(x.size:Int)-8:=IntWalk.i64_in _ (by omega)
  clear hsx ht h8 hs8
  go_enter Tryz.func43,Tryz.ntmps43
  go_upto_region 4 with fail
  try rw[hxe]
  clear hxe
  go_wp2_with (first|(go_at_call 38;refine(HG.out _).mono ?_;rintro e w1 ⟨rfl,hb1⟩;have HZ1:=blkNew hb1;have HB1:=joinB (allocB _ _) hb1)|(with_reducible refine lS (rcA 0 0 0 0 0 0 0 0 0 ⟨#[]⟩ ⟨#[]⟩ 0 0 ⟨#[]⟩ 0 0 (.slice none 0 0) (.slice none 0 0)) HZ1 ?_))
  refine bodyPost_ret (v:=.tuple #[.agg (rcA 0 0 0 0 0 0 0 0 0 ⟨#[]⟩ ⟨#[]⟩ 0 0 ⟨#[]⟩ 0 0 (.slice none 0 0) (.slice none 0 0)),(),.int .i64 3]) (results_cell3 rfl _ _ rfl (load_whole (setRow_heap _ _ _ _ _ _ HZ1) Tryz.underlying55 Kr Kr) rfl rfl) rfl ?_
  exact get_none HN.out (below_row HB1 _) 3 (by omega)
theorem get_long (s:ByteArray)(a n:Nat)(hm:s.size≤1000000)(hn:Oct.getN s.data.toList a 4=n)(hx:a+8+n≤s.size)(w:World):
 Calls Tryz.prog 43 #[s,.int .i64 (a:Int)] w (GetOut (Lg.getO s.data.toList a) w):=by
 have hsx:(s.extract a s.size).size=s.size-a:=by rw[ByteArray.size_extract];omega
 have HG:=Hq (fun W=>get_yes (s.extract a s.size) 0 4 (by omega) (by omega) (by omega) (by omega) W)
 rw[get_there s a (by omega) hn]at HG
 obtain⟨y,hy⟩:=ex ((s.extract a s.size).extract 4 (8+n))
 have hyl:y.data.toList=(s.data.toList.drop (a+4)).take (4+n):=by
  rw[hy,show 8+n=4+(4+n) by omega,extract_list]
  show((_:List UInt8).drop 4).take (4+n)=_
  rw[show(s.extract a s.size).data.toList=s.data.toList.drop a from extract_drop s a,List.drop_drop]
 have hys:y.size=4+n:=by
  have e:y.size=y.data.toList.length:=by simp
  rw[e,hyl,List.length_take,List.length_drop]
  have:s.data.toList.length=s.size:=by simp
  omega
 have hy4:Oct.getN y.data.toList 0 4=Oct.getN s.data.toList (a+4) 4:=by
  unfold Oct.getN
  rw[hyl,List.drop_zero,List.take_take,Nat.min_eq_left (by omega)]
 have hyd:y.data.toList.drop 4=Lg.bodyAt s.data.toList a:=by
  rw[hyl];unfold Lg.bodyAt
  rw[hn,List.drop_take,List.drop_drop,show 4+n-4=n by omega]
 have hq:=getN_small s.data.toList (a+4) 4
 have HO:=Hq (fun W=>open4_any y (by omega) (by omega) (Oct.getN s.data.toList (a+4) 4) hy4 (by unfold Oct.intOf;rw[if_pos (by have:(256:Nat)^4=4294967296:=rfl;omega)]) W)
 rw[hyd]at HO
 have h1:¬ (a:Int)<0:=by omega
 have h2:(a:Int)≤(s.size:Int):=by omega
 have HZ:=Hq (heap_alloc_new w (.cells (rcA 0 0 0 0 0 0 0 0 0 ⟨#[]⟩ ⟨#[]⟩ 0 0 ⟨#[]⟩ 0 0 (.slice none 0 0) (.slice none 0 0)) 55))
 have HNO:= @Lg.getO_sum s.data.toList a
 have HNW:= @Lg.getO_wrong s.data.toList a
 have HNX:= @Lg.getO_other s.data.toList a
 have HYE:= @Lg.getO_yes s.data.toList a
 have HIS:Oct.getN s.data.toList (a+4) 4=Oct.sumN (Lg.bodyAt s.data.toList a)→Rc.Right (Rc.readM true (Lg.bodyAt s.data.toList a))→Rc.bodyB (Rc.readM true (Lg.bodyAt s.data.toList a))=Lg.bodyAt s.data.toList a→Lg.Is s.data.toList a:=fun q1 q2 q3=>
  ⟨by rw[hn];have:s.data.toList.length=s.size:=(by simp);omega,q1,q2,q3⟩
 have hzl:(y.extract 4 y.size).data.toList=Lg.bodyAt s.data.toList a:=by rw[extract_drop,hyd]
 have hzs:(y.extract 4 y.size).size=n:=by rw[ByteArray.size_extract];omega
 rw[hn]at HYE
 obtain⟨x,hxe⟩:=ex (s.extract a s.size)
 obtain⟨z,hze⟩:=ex (y.extract 4 y.size)
 rw[← hxe]at HG hsx hy
 rw[← hze]at HO hzl hzs
 have HXE:=Hq hxe
 have HYEE:=Hq hy
 have HZL:=Hq hzl
 have HREC:=Hq (fun g W hW=>record_any g z (by omega) W hW)
 rw[hzl]at HREC
 generalize Lg.bodyAt s.data.toList a=L at*
 generalize Oct.getN s.data.toList (a+4) 4=q at*
 have h3:¬ (x.size:Int)<8:=by omega
 have h3n:¬ x.size<8:=by omega
 have h4:¬ (x.size:Int)-8<(n:Int):=by omega
 have w8:IntKind.i64.wrap ((x.size:Int)-8)=(x.size:Int)-8:=IntWalk.i64_in _ (by omega)
 have w9:IntKind.i64.wrap (8+(n:Int))=8+(n:Int):=IntWalk.i64_in _ (by omega)
 have h5:(4:Int)≤8+(n:Int):=by omega
 have h6:8+(n:Int)≤(x.size:Int):=by omega
 have h7:(8+(n:Int)).toNat=8+n:=by omega
 have h8:(0:Int)≤8+(n:Int):=by omega
 have w10:IntKind.i64.wrap ((a:Int)+8)=(a:Int)+8:=IntWalk.i64_in _ (by omega)
 have w11:IntKind.i64.wrap ((a:Int)+8+(n:Int))=(a:Int)+8+(n:Int):=IntWalk.i64_in _ (by omega)
 have HFN:=Hq (show((a+8+n:Nat):Int)=(a:Int)+8+(n:Int) by omega)
 clear hyl hys hy4 hyd hq hn hx hsx hxe hy hze hzl hzs
 by_cases hs:q=Oct.sumN L
 ·rw[if_pos hs]at HO
  have HIS:=Hq (HIS hs)
  clear HNO hs
  generalize hr:Rc.readM true L=r at*
  clear hr
  cases hb:Rc.rightB r with
  |false=>
   have HN:=Hq (HNW (fun h=>by rw[Rc.rightB_yes h]at hb;cases hb))
   have HRI:=Hq (fun A c B d W (h:RecR W r A c B d)=>cright_rec r A B c d W h)
   rw[hb]at HRI
   clear hb HNW HNX HYE HIS
   generalize Lg.getO s.data.toList a=o at HN ⊢
   obtain⟨lsn,prev,txn,kind,page,next,nu,⟨ok,os,oo,on⟩,how,root,⟨ek,ep,es⟩,ts,ds⟩:=r
   dsimp only[recV,recA]at HRI
   go_enter Tryz.func43,Tryz.ntmps43
   go_upto_region 4 with fail
   rw[← HXE.out]
   go_upto_region 7 with(first|(go_at_call 38;refine(HG.out _).mono ?_;rintro e w1 ⟨rfl,hb1⟩;have HZ1:=Hq (blkNew hb1);have HB1:=Hq (joinB (allocB _ _) hb1)))
   clear hb1
   have hye:=HYEE.out
   go_upto_region 10 with(first|(go_at_call 37;rw[← hye];refine(HO.out _).mono ?_;rintro e w2 ⟨rfl,hb2⟩;have HZ2:=Hq (blkOld HZ1.out hb2);have HB2:=Hq (joinB HB1.out hb2)))
   clear hb2 hye HZ1 HB1
   have HBX:=Hq (show(w2.alloc (.cells #[z,(),false] 133)).heap[w2.heap.size]? =some (.cells (rdC z 0 false) 133 (0,0))from heap_alloc_new w2 _)
   go_upto_region 11 with(first|(go_at_call 83;(with_reducible refine(HREC.out _ _ HBX.out).mono ?_);rintro e w3 ⟨A,c,B,d,rfl,hrr,hk3⟩;(try dsimp only[recV,recA]))|(with_reducible refine sN (rcA lsn prev txn kind page next nu ok os oo on how root ek ep es (.slice A ts.length c) (.slice B ds.length d)) ?_))
   have HB3:=Hq (HB2.out.trans (show Below w.heap.size w2 w3 from(Below.refl w.heap.size w2).alloc HB2.out.size _|>.trans (hk3.below (by have:=HB2.out.size;simp;omega) HB2.out.size)))
   have HZ4:=Hq (show(w3.alloc (.cells (rcA lsn prev txn kind page next nu ok os oo on how root ek ep es (.slice A ts.length c) (.slice B ds.length d)) 55)).heap[w.heap.size]? =some (.cells (rcA 0 0 0 0 0 0 0 0 0 ⟨#[]⟩ ⟨#[]⟩ 0 0 ⟨#[]⟩ 0 0 (.slice none 0 0) (.slice none 0 0)) 55 (0,0))from by
    have h1:=heapLt HZ2.out
    have h2:=hk3.size
    simp at h2
    rw[Below.heap_alloc _ _ _ (by omega),hk3.block _ (by simp;omega) (by omega),Below.heap_alloc _ _ _ (by omega)];exact HZ2.out)
   have HX:=Hq (heap_alloc_new w3 (.cells (rcA lsn prev txn kind page next nu ok os oo on how root ek ep es (.slice A ts.length c) (.slice B ds.length d)) 55))
   have HRR:=Hq (hrr.rr.below (allocB w3 (.cells (rcA lsn prev txn kind page next nu ok os oo on how root ek ep es (.slice A ts.length c) (.slice B ds.length d)) 55)))
   have HB4:=Hq (pastAlloc (o:=.cells (rcA lsn prev txn kind page next nu ok os oo on how root ek ep es (.slice A ts.length c) (.slice B ds.length d)) 55) HB3.out)
   have hgw:=HB3.out.size
   have HNA:=Hq ((hrr.mono (show w.heap.size+1≤_ by have h1:=heapLt HZ2.out;simp;omega)).below (allocB w3 (.cells (rcA lsn prev txn kind page next nu ok os oo on how root ek ep es (.slice A ts.length c) (.slice B ds.length d)) 55)))
   clear hrr hk3 HZ2 HB2 HBX HB3
   obtain⟨g,hge⟩:=ex w3.heap.size
   obtain⟨w4,hw4⟩:=ex (w3.alloc (.cells (rcA lsn prev txn kind page next nu ok os oo on how root ek ep es (.slice A ts.length c) (.slice B ds.length d)) 55))
   rw[← hge]at HX ⊢
   rw[← hw4]at HX HRR HB4 HZ4 HNA ⊢
   clear hge hw4 hgw
   go_wp2_with (first|(with_reducible refine lL HX.out Tryz.underlying55 ?_)|(go_at_call 84;(with_reducible refine(HRI.out _ _ _ _ _ HRR.out).mono ?_);rintro e w5 ⟨rfl,hb5⟩;have HZ5:=blkOld HZ4.out hb5;have HB5:=joinB HB4.out hb5)|(with_reducible refine lS (rcA 0 0 0 0 0 0 0 0 0 ⟨#[]⟩ ⟨#[]⟩ 0 0 ⟨#[]⟩ 0 0 (.slice none 0 0) (.slice none 0 0)) HZ5 ?_))
   refine bodyPost_ret (v:=.tuple #[.agg (rcA 0 0 0 0 0 0 0 0 0 ⟨#[]⟩ ⟨#[]⟩ 0 0 ⟨#[]⟩ 0 0 (.slice none 0 0) (.slice none 0 0)),(),.int .i64 2]) (results_cell3 rfl _ _ rfl (load_whole (setRow_heap _ _ _ _ _ _ HZ5) Tryz.underlying55 Kr Kr) rfl rfl) rfl ?_
   exact get_none HN.out (below_row HB5 _) 2 (by omega)
  |true=>
   have hR:=Rc.rightB_iff.1 hb
   have HRI:=Hq (fun A c B d W (h:RecR W r A c B d)=>cright_rec r A B c d W h)
   have HBO:=Hq (fun A c B d W (h:RecR W r A c B d)=>body_any r hR A B c d W h)
   rw[hb]at HRI
   obtain⟨yb,hyb⟩:=ex (⟨(Rc.bodyB r).toArray⟩:ByteArray)
   rw[← hyb]at HBO
   by_cases hxx:Rc.bodyB r=L
   ·have hYB:yb=z:=by
     rw[hyb,hxx,← HZL.out]
    have HY:=Hq (HYE (HIS.out hR hxx))
    subst hYB
    clear hb HNW HNX HYE HIS hxx hR hyb HZL
    generalize Lg.getO s.data.toList a=o at HY ⊢
    have HOK:=Hq (fun A c B d w' (h1:RecN w.heap.size w' r A c B d) (h2:Below w.heap.size w w')=>show GetOut o w (.returned (.tuple #[recV r (.slice A r.txns.length c) (.slice B r.dirty.length d),.int .i64 ((a:Int)+8+(n:Int)),()])) w' from by
     rw[HY.out,← HFN.out];exact⟨h2,A,c,B,d,rfl,h1⟩)
    have hself:(yb.toList != yb.toList)=false:=by simp
    obtain⟨lsn,prev,txn,kind,page,next,nu,⟨ok,os,oo,on⟩,how,root,⟨ek,ep,es⟩,ts,ds⟩:=r
    dsimp only[recV,recA]at HRI HBO HOK
    go_enter Tryz.func43,Tryz.ntmps43
    go_upto_region 4 with fail
    rw[← HXE.out]
    go_upto_region 7 with(first|(go_at_call 38;refine(HG.out _).mono ?_;rintro e w1 ⟨rfl,hb1⟩;have HZ1:=Hq (blkNew hb1);have HB1:=Hq (joinB (allocB _ _) hb1)))
    clear hb1
    have hye:=HYEE.out
    go_upto_region 10 with(first|(go_at_call 37;rw[← hye];refine(HO.out _).mono ?_;rintro e w2 ⟨rfl,hb2⟩;have HZ2:=Hq (blkOld HZ1.out hb2);have HB2:=Hq (joinB HB1.out hb2)))
    clear hb2 hye HZ1 HB1
    have HBX:=Hq (show(w2.alloc (.cells #[yb,(),false] 133)).heap[w2.heap.size]? =some (.cells (rdC yb 0 false) 133 (0,0))from heap_alloc_new w2 _)
    go_upto_region 11 with(first|(go_at_call 83;(with_reducible refine(HREC.out _ _ HBX.out).mono ?_);rintro e w3 ⟨A,c,B,d,rfl,hrr,hk3⟩;(try dsimp only[recV,recA]))|(with_reducible refine sN (rcA lsn prev txn kind page next nu ok os oo on how root ek ep es (.slice A ts.length c) (.slice B ds.length d)) ?_))
    have HB3:=Hq (HB2.out.trans (show Below w.heap.size w2 w3 from(Below.refl w.heap.size w2).alloc HB2.out.size _|>.trans (hk3.below (by have:=HB2.out.size;simp;omega) HB2.out.size)))
    have HZ4:=Hq (show(w3.alloc (.cells (rcA lsn prev txn kind page next nu ok os oo on how root ek ep es (.slice A ts.length c) (.slice B ds.length d)) 55)).heap[w.heap.size]? =some (.cells (rcA 0 0 0 0 0 0 0 0 0 ⟨#[]⟩ ⟨#[]⟩ 0 0 ⟨#[]⟩ 0 0 (.slice none 0 0) (.slice none 0 0)) 55 (0,0))from by
     have h1:=heapLt HZ2.out
     have h2:=hk3.size
     simp at h2
     rw[Below.heap_alloc _ _ _ (by omega),hk3.block _ (by simp;omega) (by omega),Below.heap_alloc _ _ _ (by omega)];exact HZ2.out)
    have HX:=Hq (heap_alloc_new w3 (.cells (rcA lsn prev txn kind page next nu ok os oo on how root ek ep es (.slice A ts.length c) (.slice B ds.length d)) 55))
    have HRR:=Hq (hrr.rr.below (allocB w3 (.cells (rcA lsn prev txn kind page next nu ok os oo on how root ek ep es (.slice A ts.length c) (.slice B ds.length d)) 55)))
    have HB4:=Hq (pastAlloc (o:=.cells (rcA lsn prev txn kind page next nu ok os oo on how root ek ep es (.slice A ts.length c) (.slice B ds.length d)) 55) HB3.out)
    have hgw:=HB3.out.size
    have HNA:=Hq ((hrr.mono (show w.heap.size+1≤_ by have h1:=heapLt HZ2.out;simp;omega)).below (allocB w3 (.cells (rcA lsn prev txn kind page next nu ok os oo on how root ek ep es (.slice A ts.length c) (.slice B ds.length d)) 55)))
    clear hrr hk3 HZ2 HB2 HBX HB3
    obtain⟨g,hge⟩:=ex w3.heap.size
    obtain⟨w4,hw4⟩:=ex (w3.alloc (.cells (rcA lsn prev txn kind page next nu ok os oo on how root ek ep es (.slice A ts.length c) (.slice B ds.length d)) 55))
    rw[← hge]at HX ⊢
    rw[← hw4]at HX HRR HB4 HZ4 HNA ⊢
    clear hge hw4 hgw
    go_upto_region 13 with(first|(with_reducible refine lL HXb.out Tryz.underlying55 ?_)|(with_reducible refine lL HX.out Tryz.underlying55 ?_)|(go_at_call 84;(with_reducible refine(HRI.out _ _ _ _ _ HRR.out).mono ?_);rintro e w5 ⟨rfl,hb5⟩;have HXb:=Hq (blkOld HX.out hb5);have HRb:=Hq (HRR.out.below hb5);have HBa:=Hq hb5;have HZ5:=Hq (blkOld HZ4.out hb5);have HB5:=Hq (joinB HB4.out hb5);clear hb5)|(go_at_call 85;(with_reducible refine(HBO.out _ _ _ _ _ HRb.out).mono ?_);rintro e w6 ⟨rfl,hb6⟩;have HXc:=Hq (blkOld HXb.out hb6);have HNb:=Hq ((HNA.out.below HBa.out).below hb6);have HZ6:=Hq (blkOld HZ5.out hb6);have HB6:=Hq (joinB HB5.out hb6);clear hb6))
    clear hself
    go_wp2_with (first|(with_reducible refine lL HXc.out Tryz.underlying55 ?_)|(with_reducible refine lS (rcA lsn prev txn kind page next nu ok os oo on how root ek ep es (.slice A ts.length c) (.slice B ds.length d)) HZ6.out ?_))
    refine bodyPost_ret (v:=.tuple #[.agg (rcA lsn prev txn kind page next nu ok os oo on how root ek ep es (.slice A ts.length c) (.slice B ds.length d)),.int .i64 ((a:Int)+8+(n:Int)),()]) (results_cell3 rfl _ _ rfl (load_whole (setRow_heap _ _ _ _ _ _ HZ6.out) Tryz.underlying55 Kr Kr) rfl rfl) rfl ?_
    exact HOK.out A c B d _ (((HNb.out).row w.heap.size (rcA lsn prev txn kind page next nu ok os oo on how root ek ep es (.slice A ts.length c) (.slice B ds.length d)) (by omega)).mono (by omega)) (below_row HB6.out _)
   ·have hYB:yb≠z:=fun e=>hxx (by
     have:=congrArg (fun b:ByteArray=>b.data.toList) (hyb.symm.trans e)
     simp only[HZL.out]at this
     exact this)
    have HN:=Hq (HNX hxx)
    have hne:=str_neq hYB
    have hne2:(yb.toList==z.toList)=false:=by simpa using hne
    have hne3:¬ yb.toList=z.toList:=by simpa using hne
    clear hb HNW HNX HYE HIS hxx hR hyb HZL hYB
    generalize Lg.getO s.data.toList a=o at HN ⊢
    obtain⟨lsn,prev,txn,kind,page,next,nu,⟨ok,os,oo,on⟩,how,root,⟨ek,ep,es⟩,ts,ds⟩:=r
    dsimp only[recV,recA]at HRI HBO
    go_enter Tryz.func43,Tryz.ntmps43
    go_upto_region 4 with fail
    rw[← HXE.out]
    go_upto_region 7 with(first|(go_at_call 38;refine(HG.out _).mono ?_;rintro e w1 ⟨rfl,hb1⟩;have HZ1:=Hq (blkNew hb1);have HB1:=Hq (joinB (allocB _ _) hb1)))
    clear hb1
    have hye:=HYEE.out
    go_upto_region 10 with(first|(go_at_call 37;rw[← hye];refine(HO.out _).mono ?_;rintro e w2 ⟨rfl,hb2⟩;have HZ2:=Hq (blkOld HZ1.out hb2);have HB2:=Hq (joinB HB1.out hb2)))
    clear hb2 hye HZ1 HB1
    have HBX:=Hq (show(w2.alloc (.cells #[z,(),false] 133)).heap[w2.heap.size]? =some (.cells (rdC z 0 false) 133 (0,0))from heap_alloc_new w2 _)
    go_upto_region 11 with(first|(go_at_call 83;(with_reducible refine(HREC.out _ _ HBX.out).mono ?_);rintro e w3 ⟨A,c,B,d,rfl,hrr,hk3⟩;(try dsimp only[recV,recA]))|(with_reducible refine sN (rcA lsn prev txn kind page next nu ok os oo on how root ek ep es (.slice A ts.length c) (.slice B ds.length d)) ?_))
    have HB3:=Hq (HB2.out.trans (show Below w.heap.size w2 w3 from(Below.refl w.heap.size w2).alloc HB2.out.size _|>.trans (hk3.below (by have:=HB2.out.size;simp;omega) HB2.out.size)))
    have HZ4:=Hq (show(w3.alloc (.cells (rcA lsn prev txn kind page next nu ok os oo on how root ek ep es (.slice A ts.length c) (.slice B ds.length d)) 55)).heap[w.heap.size]? =some (.cells (rcA 0 0 0 0 0 0 0 0 0 ⟨#[]⟩ ⟨#[]⟩ 0 0 ⟨#[]⟩ 0 0 (.slice none 0 0) (.slice none 0 0)) 55 (0,0))from by
     have h1:=heapLt HZ2.out
     have h2:=hk3.size
     simp at h2
     rw[Below.heap_alloc _ _ _ (by omega),hk3.block _ (by simp;omega) (by omega),Below.heap_alloc _ _ _ (by omega)];exact HZ2.out)
    have HX:=Hq (heap_alloc_new w3 (.cells (rcA lsn prev txn kind page next nu ok os oo on how root ek ep es (.slice A ts.length c) (.slice B ds.length d)) 55))
    have HRR:=Hq (hrr.rr.below (allocB w3 (.cells (rcA lsn prev txn kind page next nu ok os oo on how root ek ep es (.slice A ts.length c) (.slice B ds.length d)) 55)))
    have HB4:=Hq (pastAlloc (o:=.cells (rcA lsn prev txn kind page next nu ok os oo on how root ek ep es (.slice A ts.length c) (.slice B ds.length d)) 55) HB3.out)
    have hgw:=HB3.out.size
    have HNA:=Hq ((hrr.mono (show w.heap.size+1≤_ by have h1:=heapLt HZ2.out;simp;omega)).below (allocB w3 (.cells (rcA lsn prev txn kind page next nu ok os oo on how root ek ep es (.slice A ts.length c) (.slice B ds.length d)) 55)))
    clear hrr hk3 HZ2 HB2 HBX HB3
    obtain⟨g,hge⟩:=ex w3.heap.size
    obtain⟨w4,hw4⟩:=ex (w3.alloc (.cells (rcA lsn prev txn kind page next nu ok os oo on how root ek ep es (.slice A ts.length c) (.slice B ds.length d)) 55))
    rw[← hge]at HX ⊢
    rw[← hw4]at HX HRR HB4 HZ4 HNA ⊢
    clear hge hw4 hgw
    go_wp2_with (first|(with_reducible refine lL HXb.out Tryz.underlying55 ?_)|(with_reducible refine lL HX.out Tryz.underlying55 ?_)|(go_at_call 84;(with_reducible refine(HRI.out _ _ _ _ _ HRR.out).mono ?_);rintro e w5 ⟨rfl,hb5⟩;have HXb:=Hq (blkOld HX.out hb5);have HRb:=Hq (HRR.out.below hb5);have HZ5:=Hq (blkOld HZ4.out hb5);have HB5:=Hq (joinB HB4.out hb5);clear hb5)|(go_at_call 85;(with_reducible refine(HBO.out _ _ _ _ _ HRb.out).mono ?_);rintro e w6 ⟨rfl,hb6⟩;have HZ6:=blkOld HZ5.out hb6;have HB6:=joinB HB5.out hb6)|(with_reducible refine lS (rcA 0 0 0 0 0 0 0 0 0 ⟨#[]⟩ ⟨#[]⟩ 0 0 ⟨#[]⟩ 0 0 (.slice none 0 0) (.slice none 0 0)) HZ6 ?_))
    refine bodyPost_ret (v:=.tuple #[.agg (rcA 0 0 0 0 0 0 0 0 0 ⟨#[]⟩ ⟨#[]⟩ 0 0 ⟨#[]⟩ 0 0 (.slice none 0 0) (.slice none 0 0)),(),.int .i64 2]) (results_cell3 rfl _ _ rfl (load_whole (setRow_heap _ _ _ _ _ _ HZ6) Tryz.underlying55 Kr Kr) rfl rfl) rfl ?_
    exact get_none HN.out (below_row HB6 _) 2 (by omega)
 ·have HN:=Hq (HNO hs)
  rw[if_neg hs]at HO
  clear HNO HNW HNX HYE HIS hs HREC HZL
  generalize Lg.getO s.data.toList a=o at HN ⊢
  go_enter Tryz.func43,Tryz.ntmps43
  go_upto_region 4 with fail
  rw[← HXE.out]
  go_upto_region 7 with(first|(go_at_call 38;refine(HG.out _).mono ?_;rintro e w1 ⟨rfl,hb1⟩;have HZ1:=Hq (blkNew hb1);have HB1:=Hq (joinB (allocB _ _) hb1)))
  have hye:=HYEE.out
  clear hb1
  go_wp2_with (first|(go_at_call 37;rw[← hye];refine(HO.out _).mono ?_;rintro e w2 ⟨rfl,hb2⟩;have HZ2:=blkOld HZ1.out hb2;have HB2:=joinB HB1.out hb2)|(with_reducible refine lS (rcA 0 0 0 0 0 0 0 0 0 ⟨#[]⟩ ⟨#[]⟩ 0 0 ⟨#[]⟩ 0 0 (.slice none 0 0) (.slice none 0 0)) HZ2 ?_))
  refine bodyPost_ret (v:=.tuple #[.agg (rcA 0 0 0 0 0 0 0 0 0 ⟨#[]⟩ ⟨#[]⟩ 0 0 ⟨#[]⟩ 0 0 (.slice none 0 0) (.slice none 0 0)),(),.int .i64 19]) (results_cell3 rfl _ _ rfl (load_whole (setRow_heap _ _ _ _ _ _ HZ2) Tryz.underlying55 Kr Kr) rfl rfl) rfl ?_
  exact get_none HN.out (below_row HB2 _) 19 (by omega)
theorem get_rec (s:ByteArray)(a:Nat)(hm:s.size≤1000000)(w:World):
 Calls Tryz.prog 43 #[s,.int .i64 (a:Int)] w (GetOut (Lg.getO s.data.toList a) w):=by
 have hl:s.data.toList.length=s.size:=by simp
 by_cases h1:s.size<a
 ·exact get_far s a hm (.inr (by omega)) _ (Lg.getO_short (.inl (by omega))) w
 by_cases h2:s.size<a+4
 ·exact get_short4 s a hm (by omega) h2 _ (Lg.getO_short (.inl (by omega))) w
 by_cases h3:s.size<a+8∨s.size<a+8+Oct.getN s.data.toList a 4
 ·exact get_short8 s a _ hm (by omega) rfl h3 _ (Lg.getO_short (by rw[hl];exact h3)) w
 ·exact get_long s a _ hm rfl (by omega) w
end Go.Proofs.YtilakddepaplhaaGreat
namespace Lg
structure Acc (d:Dk) (f:Int) (N k:Nat) (l:List UInt8):Prop where
 le:k≤N
 eq:secsD d f N=match secsD d (f+(k:Int)) (N-k)with
  | .ok r=>.ok (l++r)
  | .error e=>.error e
theorem Acc.zero (d:Dk)(f:Int)(N:Nat):Acc d f N 0 []:=⟨Nat.zero_le _,by
 simp only[Nat.sub_zero,List.nil_append]
 rw[show f+((0:Nat):Int)=f by omega]
 cases secsD d f N<;>rfl⟩
theorem Acc.next {d:Dk}{f:Int}{N k:Nat}{l:List UInt8}(h:Acc d f N k l)(hk:k<N)(h0:(readD d (f+(k:Int))).2=0):Acc d f N (k+1) (l++(readD d (f+(k:Int))).1.data.toList):=by
 refine⟨hk,?_⟩
 rw[h.eq,show N-k=(N-(k+1))+1 by omega]
 rw[show f+((k+1:Nat):Int)=f+(k:Int)+1 by omega]
 conv=>lhs;unfold secsD
 rw[if_pos h0]
 cases secsD d (f+(k:Int)+1) (N-(k+1))with
 |ok r=>simp only[List.append_assoc]
 |error e=>rfl
theorem Acc.fault {d:Dk}{f:Int}{N k:Nat}{l:List UInt8}(h:Acc d f N k l)(hk:k<N)(h0:(readD d (f+(k:Int))).2≠0):secsD d f N= .error (readD d (f+(k:Int))).2:=by
 rw[h.eq,show N-k=(N-(k+1))+1 by omega]
 conv=>lhs;unfold secsD
 rw[if_neg h0]
theorem Acc.done {d:Dk}{f:Int}{N:Nat}{l:List UInt8}(h:Acc d f N N l):secsD d f N= .ok l:=by
 rw[h.eq,Nat.sub_self]
 unfold secsD
 simp
theorem readD_in {d:Dk}{a:Int}(h:(readD d a).2=0):hasD d a∧(readD d a).1=secAt d a:=by
 unfold readD at h ⊢
 split at h
 ·cases h
 ·split at h
  ·rename_i h1 h2
   rw[if_neg h1,if_pos h2]
   exact⟨h2,rfl⟩
  ·cases h
theorem secAt_size {d:Dk}{a:Int}(hw:∀ b∈d.sectors,b.size≤1000):(secAt d a).size≤1000:=by
 unfold secAt
 cases h:d.sectors[a.toNat]? with
 |none=>show(0:Nat)≤1000;omega
 |some b=>exact hw b (List.mem_of_getElem? h)
theorem secs_fault {d:Dk}:∀ (n:Nat) {f k:Int},secsD d f n= .error k→k≠0:=by
 intro n
 induction n with
 |zero=>intro f k h;cases h
 |succ n ih=>
  intro f k h
  unfold secsD at h
  split at h
  ·cases h2:secsD d (f+1) n with
   |ok l=>rw[h2]at h;cases h
   |error e=>rw[h2]at h;injection h with h;subst h;exact ih h2
  ·rename_i h1;injection h with h;rw[← h];exact h1
end Lg
namespace Go.Proofs.YtilakddepaplhaaGreat
open Go.RowKit
def secV:Except Int (List UInt8)→Value
 | .ok l=>.tuple #[.string ⟨l.toArray⟩,()]
 | .error k=>.tuple #["",k]
def SecOut (r:Except Int (List UInt8))(w:World)(e:Ending)(w':World):Prop:=Below w.heap.size w w'∧e= .returned (secV r)
theorem sectors_any (d:Lg.Dk)(hw:∀ b∈d.sectors,b.size≤1000)(A:Option Addr)(c:Nat)(f n:Int)(hf1: -9223372036854775808≤f)(hf2:f≤9223372036854775807)(hn:n≤100000)(w:World)(h:DiskR w d A c):
 Calls Tryz.prog 42 #[diskV d A c,f,n] w (SecOut (Lg.secsD d f n.toNat) w):=by
 have HR:=Hq (fun a W (hb:Below w.heap.size w W)=>dread_any d A c a W (h.below hb))
 have hsm:=h.small
 obtain⟨N,hN⟩:=ex n.toNat
 rw[← hN]
 have hmax:max n 0=(N:Int):=by omega
 have hN2:N≤100000:=by omega
 have HF:=Hq (fun r (hr:Lg.secsD d f N=r) w' (hb:Below w.heap.size w w')=>show SecOut (Lg.secsD d f N) w (.returned (secV r)) w' from⟨hb,by rw[hr]⟩)
 have HA:=Hq (Lg.Acc.zero d f N)
 have HW:=Hq hw
 generalize SecOut (Lg.secsD d f N) w=Q at HF ⊢
 have HS:=Hq (show(d.sectors.length:Int)≤1000000 by omega)
 clear h hN hw hsm
 go_enter Tryz.func42,Tryz.ntmps42
 go_upto_region 2 with fail
 have hd0:=new21 w (.cells #[.slice A d.sectors.length c,d.left,d.down] 29) (.cells #[.pointer none,"s"] 125)
 have hb0:=new2 w (.cells #[.slice A d.sectors.length c,d.left,d.down] 29) (.cells #[.pointer none,"s"] 125)
 have hw0:Below w.heap.size w ((w.alloc (.cells #[.slice A d.sectors.length c,d.left,d.down] 29)).alloc (.cells #[.pointer none,"s"] 125)):=pastAlloc (allocB _ _)
 obtain⟨W0,hW0⟩:=ex ((w.alloc (.cells #[.slice A d.sectors.length c,d.left,d.down] 29)).alloc (.cells #[.pointer none,"s"] 125))
 rw[← hW0]at hd0 hb0 hw0 ⊢
 have HD0:=Hq hd0
 have HB0:=Hq hb0
 have HW0:=Hq hw0
 clear hd0 hb0 hw0 hW0
 go_wp2_with fail
 go_loopw [14] (fun i wr=>∃ (k:Nat) (l:List UInt8),i= .int .i64 (k:Int)∧Lg.Acc d f N k l∧l.length≤k*1000∧(0<k→0≤f∧f+(k:Int)≤1000000)∧Bld (w.heap.size+2) wr.heap.size (w.heap.size+1) l wr∧KeptB (w.heap.size+2) (w.heap.size+1) W0 wr) (fun i _=>N-(intOf i).toNat)
 case atStart=>exact⟨0,[],rfl,HA.out,Nat.le_refl _,fun h=>absurd h (by omega),Bld.fresh _ _ _ _ (by omega) HB0.out,KeptB.refl _ _ _⟩
 case round=>
  obtain⟨k,l,rfl,hacc,hll,hfk,hbld,hkept⟩:=hrel
  have HAC:=Hq hacc
  have HBL:=Hq hbld
  have HK:=Hq hkept
  have HFK:=Hq hfk
  have hsz0:=heapLt HB0.out
  have hws:W0.heap.size≤wr.heap.size:=hkept.size
  have hkN:=hacc.le
  have hbw:Below w.heap.size w wr:=HW0.out.trans (HK.out.below (by omega) (by omega))
  have HBW:=Hq hbw
  clear hacc hbld hkept hbw hfk
  by_cases hlt:k<N
  ·have hwr:IntKind.i64.wrap (f+(k:Int))=f+(k:Int):=by
    refine IntWalk.i64_in _ ?_
    rcases Nat.eq_zero_or_pos k with h0|h0
    ·subst h0;simp;omega
    ·have:=HFK.out h0;omega
   have HDB:=Hq (show wr.heap[w.heap.size]? =some (.cells #[.slice A d.sectors.length c,d.left,d.down] 29 (0,0))from(HK.out.block _ (by omega) (by omega)).trans HD0.out)
   have hRD:=HR.out (f+(k:Int)) wr HBW.out
   have HACE:=Hq (fun h=>HAC.out.fault hlt h)
   have HACN:=Hq (fun h=>HAC.out.next hlt h)
   have HINK:=Hq (@Lg.readD_in d (f+(k:Int)))
   have HSZ:=Hq (@Lg.secAt_size d (f+(k:Int)) HW.out)
   generalize Lg.readD d (f+(k:Int))=rd at hRD HACE HACN HINK
   obtain⟨x,e⟩:=rd
   simp only at hRD HACE HACN HINK
   have HRD:=Hq hRD
   clear hRD HAC
   by_cases he:e=0
   ·subst he
    have HACN2:=Hq (HACN.out rfl)
    have hin:=HINK.out rfl
    have hxs:x.size≤1000:=by rw[hin.2];exact HSZ.out
    have hfk2:0≤f∧f+((k+1:Nat):Int)≤1000000:=by
     have h1:=hin.1.1
     have h2:=hin.1.2
     have h3:=HS.out
     refine⟨?_,by omega⟩
     rcases Nat.eq_zero_or_pos k with h0|h0
     ·subst h0;simpa using h1
     ·exact(HFK.out h0).1
    have HFK2:=Hq hfk2
    have hlx:l.length+x.size≤140737488355328:=by omega
    have hl2:(l++x.data.toList).length≤(k+1)*1000:=by rw[List.length_append];simp;omega
    have HL2:=Hq hl2
    clear hin hfk2 hl2 HACN HACE HINK HSZ HFK
    dsimp only[diskV]at HRD
    go_wp2_with (first
     |(with_reducible refine lL HDB.out Tryz.underlying29 ?_)
     |(go_at_call 36;(with_reducible refine HRD.out.mono ?_);rintro e w1 ⟨rfl,hb1⟩;have HB1:=Hq (HBL.out.below hb1);have HK1:=Hq (HK.out.trans (KeptB.of_below (by omega) hb1));have hs1:=hb1.size;clear hb1)
     |(go_at_call 81;(with_reducible refine(write_any _ _ _ _ _ _ HB1.out hlx (by omega)).mono ?_);rintro e w2 ⟨rfl,hbld2,hk2⟩;have HB2:=Hq hbld2;have HK2:=Hq (HK1.out.trans hk2);clear hbld2 hk2))
    go_roundw
    case rel=>exact⟨k+1,l++x.data.toList,by go_num,HACN2.out,HL2.out,fun _=>HFK2.out,HB2.out,HK2.out⟩
    case measure=>simp[intOf];omega
   ·have HACE2:=Hq (HACE.out he)
    have he1:(e==0)=false:=by simpa using he
    have he2:(e != 0)=true:=by simpa using he
    clear he HACN HACE HINK HSZ HFK
    dsimp only[diskV]at HRD
    go_wp2_with (first
     |(with_reducible refine lL HDB.out Tryz.underlying29 ?_)
     |(go_at_call 36;(with_reducible refine HRD.out.mono ?_);rintro e w1 ⟨rfl,hb1⟩))
    exact HF.out _ HACE2.out _ (joinB HBW.out hb1)
  ·obtain rfl:k=N:=by omega
   have HDN:=Hq HAC.out.done
   go_wp2_with ((go_at_call 82;(with_reducible refine(string_any _ _ _ _ _ HBL.out).mono ?_);rintro e w2 ⟨rfl,hk2⟩))
   exact HF.out _ HDN.out _ (HBW.out.trans (hk2.below (by omega) HBW.out.size))
theorem putW (n:Nat)(h:n<18446744073709551616)(size:Nat)(h8:size≤8):(Oct.putB (n:Int) size).data.toList=Oct.putL n size:=by
 rw[Oct.putB_list _ _ h8]
 congr 1
 unfold Oct.word
 omega
theorem seal_any (s:ByteArray)(hs:s.size≤1000000)(w:World):
 Calls Tryz.prog 89 #[s] w fun e w'=>∃ x:ByteArray,e= .returned (.string x)∧x.data.toList=Oct.putL (Oct.sumN s.data.toList) 4++s.data.toList∧Below w.heap.size w w':=by
 have HS:=Hq (fun W=>sum_any s (by omega) W)
 have hlt:Oct.sumN s.data.toList<18446744073709551616:=by have:=Oct.sumN_lt s.data.toList;omega
 have hfin0:(Oct.putB ((Oct.sumN s.data.toList:Nat):Int) 4).data.toList=Oct.putL (Oct.sumN s.data.toList) 4:=putW _ hlt 4 (by omega)
 generalize Oct.sumN s.data.toList=n at HS hfin0 ⊢
 have HP:=Hq (fun W=>put_any (n:Int) 4 (by omega) (by omega) W)
 have hsz:(Oct.putB (n:Int) 4).size=4:=Oct.putB_size _ 4 (by omega)
 have hsum:(Oct.putB (n:Int) 4).size+s.size≤281474976710656:=by omega
 have hfin:(Oct.putB (n:Int) 4++s).data.toList=Oct.putL n 4++s.data.toList:=by
  rw[ByteArray.data_append,Array.toList_append,hfin0]
 clear hlt hfin0
 generalize Oct.putB (n:Int) 4=x at HP hsz hsum hfin
 go_enter Tryz.func89,Tryz.ntmps89
 go_wp2_with (first|(go_at_call 77;refine(HS.out _).mono ?_;rintro e w1 ⟨rfl,rfl⟩)|(go_at_call 90;refine(HP.out _).mono ?_;rintro e w2 ⟨rfl,hb2⟩))
 go_ret
 exact⟨_,rfl,hfin,hb2⟩
def PutOut (r:Rc.Rec)(w:World)(e:Ending)(w':World):Prop:=
 (∃ x:ByteArray,Rc.Right r∧e= .returned (.tuple #[x,()])∧x.data.toList=Lg.putR r∨¬ Rc.Right r∧e= .returned (.tuple #["",.int .i64 1]))∧Below w.heap.size w w'
theorem recput_any (r:Rc.Rec)(A D:Option Addr)(c d:Nat)(w:World)(hr:RecR w r A c D d):
 Calls Tryz.prog 67 #[recV r (.slice A r.txns.length c) (.slice D r.dirty.length d)] w (PutOut r w):=by
 have HR:=Hq (fun W (h:Below w.heap.size w W)=>cright_rec r A D c d W (hr.below h))
 have HA:=Hq (heap_alloc_new w (.cells (recA r (.slice A r.txns.length c) (.slice D r.dirty.length d)) 55))
 cases hb:Rc.rightB r with
 |false=>
  rw[hb]at HR
  have hno:¬ Rc.Right r:=fun h=>by rw[Rc.rightB_yes h]at hb;cases hb
  have HO:=Hq (fun w' (h:Below w.heap.size w w')=>show PutOut r w (.returned (.tuple #["",.int .i64 1])) w' from⟨⟨⟨#[]⟩,.inr ⟨hno,rfl⟩⟩,h⟩)
  clear hno hb hr
  generalize PutOut r w=Q at HO ⊢
  obtain⟨lsn,prev,txn,kind,page,next,nu,⟨ok,os,oo,on⟩,how,root,⟨ek,ep,es⟩,ts,ds⟩:=r
  dsimp only[recV,recA]at HR HA ⊢
  go_enter Tryz.func67,Tryz.ntmps67
  go_wp2_with (first
   |(with_reducible refine lL HA.out Tryz.underlying55 ?_)
   |(go_at_call 84;(with_reducible refine(HR.out _ (allocB _ _)).mono ?_);rintro e w1 ⟨rfl,hb1⟩))
  exact HO.out _ (joinB (allocB _ _) hb1)
 |true=>
  rw[hb]at HR
  have hx:Rc.Right r:=Rc.rightB_iff.1 hb
  have HB:=Hq (fun W (h:Below w.heap.size w W)=>body_any r hx A D c d W (hr.below h))
  obtain⟨y,hy⟩:=ex (⟨(Rc.bodyB r).toArray⟩:ByteArray)
  rw[← hy]at HB
  have hyl:y.data.toList=Rc.bodyB r:=by rw[hy]
  have hlen:=Rc.bodyB_len hx
  have hys:y.size=(Rc.bodyB r).length:=by rw[← hyl];simp
  have hsz:y.size≤1000000:=by omega
  have HS:=Hq (fun W=>seal_any y hsz W)
  have HP:=Hq (fun W=>put_any (y.size:Int) 4 (by omega) (by omega) W)
  have hpl:(Oct.putB (y.size:Int) 4).data.toList=Oct.putL y.size 4:=putW _ (by omega) 4 (by omega)
  have hpz:(Oct.putB (y.size:Int) 4).size=4:=Oct.putB_size _ 4 (by omega)
  generalize Oct.putB (y.size:Int) 4=z at HP hpl hpz
  have HO:=Hq (fun w' (x:ByteArray) (hxx:x.data.toList=Oct.putL (Oct.sumN y.data.toList) 4++y.data.toList) (h:Below w.heap.size w w')=>show PutOut r w (.returned (.tuple #[.string (z++x),()])) w' from⟨⟨z++x,.inl ⟨hx,rfl,by rw[ByteArray.data_append,Array.toList_append,hpl,hxx,hyl,hys];rfl⟩⟩,h⟩)
  have HX:=Hq (fun(x:ByteArray) (hxx:x.data.toList=Oct.putL (Oct.sumN y.data.toList) 4++y.data.toList)=>show x.size≤1000004 from by
   have e:x.size=x.data.toList.length:=by simp
   rw[e,hxx,List.length_append,Oct.putL_length]
   have e2:y.data.toList.length=y.size:=by simp
   omega)
  clear hx hb hr hy hyl hlen hys hpl
  generalize PutOut r w=Q at HO ⊢
  obtain⟨lsn,prev,txn,kind,page,next,nu,⟨ok,os,oo,on⟩,how,root,⟨ek,ep,es⟩,ts,ds⟩:=r
  dsimp only[recV,recA]at HR HA HB ⊢
  go_enter Tryz.func67,Tryz.ntmps67
  go_upto_region 3 with(first
   |(with_reducible refine lL HA.out Tryz.underlying55 ?_)
   |(go_at_call 84;(with_reducible refine(HR.out _ (allocB _ _)).mono ?_);rintro e w1 ⟨rfl,hb1⟩))
  have HA1:=Hq (blkOld HA.out hb1)
  have HB1:=Hq (joinB (allocB w _) hb1)
  clear hb1 HA HR
  go_upto_region 4 with(first
   |(with_reducible refine lL HA1.out Tryz.underlying55 ?_)
   |(go_at_call 85;(with_reducible refine(HB.out _ HB1.out).mono ?_);rintro e w2 ⟨rfl,hb2⟩))
  have HB2:=Hq (joinB HB1.out hb2)
  clear hb2 HB1 HA1 HB
  go_wp2_with (first|(go_at_call 90;refine(HP.out _).mono ?_;rintro e w3 ⟨rfl,hb3⟩)|(go_at_call 89;refine(HS.out _).mono ?_;rintro e w4 ⟨x,rfl,hxx,hb4⟩;have hxs:=HX.out x hxx;have hsum:z.size+x.size≤281474976710656:=(by omega)))
  exact HO.out _ x hxx (joinB (joinB HB2.out hb3) hb4)
end Go.Proofs.YtilakddepaplhaaGreat
namespace Lg
theorem append_wrong {l:Lo}{r:Rc.Rec}(h:¬ Rc.Right {r with lsn:=l.end_+1}):appendD l r=(l,0,1):=by
 unfold appendD
 simp only
 rw[if_pos h]
theorem append_full {l:Lo}{r:Rc.Rec}(h:Rc.Right {r with lsn:=l.end_+1})(h2:l.n*128-((putR {r with lsn:=l.end_+1}).length:Int)<l.end_):appendD l r=(l,0,18):=by
 unfold appendD
 simp only
 rw[if_neg (fun hn=>hn h),if_pos h2]
theorem append_ok {l:Lo}{r:Rc.Rec}(h:Rc.Right {r with lsn:=l.end_+1})(h2:¬ l.n*128-((putR {r with lsn:=l.end_+1}).length:Int)<l.end_):appendD l r=({l with end_:=l.end_+((putR {r with lsn:=l.end_+1}).length:Int),tail:=l.tail++⟨(putR {r with lsn:=l.end_+1}).toArray⟩},l.end_+1,0):=by
 unfold appendD
 simp only
 rw[if_neg (fun hn=>hn h),if_neg h2]
end Lg
namespace Go.Proofs.YtilakddepaplhaaGreat
open Go.RowKit
theorem recput_yes (r:Rc.Rec)(hR:Rc.Right r)(A D:Option Addr)(c d:Nat)(w:World)(hr:RecR w r A c D d):
 Calls Tryz.prog 67 #[recV r (.slice A r.txns.length c) (.slice D r.dirty.length d)] w fun e w'=>e= .returned (.tuple #[.string ⟨(Lg.putR r).toArray⟩,()])∧Below w.heap.size w w':=by
 refine(recput_any r A D c d w hr).mono ?_
 rintro e w' ⟨⟨x,h⟩,hb⟩
 rcases h with⟨_,rfl,hx⟩|⟨h,_⟩
 ·exact⟨by rw[← hx],hb⟩
 ·exact absurd hR h
theorem recput_no (r:Rc.Rec)(hR:¬ Rc.Right r)(A D:Option Addr)(c d:Nat)(w:World)(hr:RecR w r A c D d):
 Calls Tryz.prog 67 #[recV r (.slice A r.txns.length c) (.slice D r.dirty.length d)] w fun e w'=>e= .returned (.tuple #["",.int .i64 1])∧Below w.heap.size w w':=by
 refine(recput_any r A D c d w hr).mono ?_
 rintro e w' ⟨⟨x,h⟩,hb⟩
 rcases h with⟨h,_⟩|⟨_,rfl⟩
 ·exact absurd h hR
 ·exact⟨rfl,hb⟩
def AppOut (x:Lg.Lo×Int×Int)(w:World)(e:Ending)(w':World):Prop:=e= .returned (.tuple #[logV x.1,x.2.1,x.2.2])∧Below w.heap.size w w'
theorem append_any (l:Lg.Lo)(he0:0≤l.end_)(he1:l.end_≤1000000000)(hn0: -1000000000≤l.n)(hn1:l.n≤1000000000)(ht:l.tail.size≤1000000000)(r:Rc.Rec)(A D:Option Addr)(c d:Nat)(w:World)(hr:RecR w r A c D d):
 Calls Tryz.prog 30 #[logV l,recV r (.slice A r.txns.length c) (.slice D r.dirty.length d)] w (AppOut (Lg.appendD l r) w):=by
 have HPY:=Hq (fun hR W (hb:Below w.heap.size w W)=>recput_yes {r with lsn:=l.end_+1} hR A D c d W ⟨hr.txns.below hb,hr.dirty.below hb,hr.small⟩)
 have HPN:=Hq (fun hR W (hb:Below w.heap.size w W)=>recput_no {r with lsn:=l.end_+1} hR A D c d W ⟨hr.txns.below hb,hr.dirty.below hb,hr.small⟩)
 have HN:=Hq (@Lg.append_wrong l r)
 have HFU:=Hq (@Lg.append_full l r)
 have HOK:=Hq (@Lg.append_ok l r)
 generalize Lg.appendD l r=o at HN HFU HOK ⊢
 clear hr
 obtain⟨fr,n,en,sf,tl⟩:=l
 obtain⟨lsn,prev,txn,kind,page,next,nu,⟨ok,os,oo,on⟩,how,root,⟨ek,ep,es⟩,ts,ds⟩:=r
 dsimp only[recV,recA,logV]at HPY HPN HN HFU HOK he0 he1 hn0 hn1 ht ⊢
 have hw1:IntKind.i64.wrap (en+1)=en+1:=IntWalk.i64_in _ (by omega)
 by_cases hR:Rc.Right ⟨en+1,prev,txn,kind,page,next,nu,⟨ok,os,oo,on⟩,how,root,⟨ek,ep,es⟩,ts,ds⟩
 ·have HP:=Hq (HPY.out hR)
  have HFU2:=Hq (HFU.out hR)
  have HOK2:=Hq (HOK.out hR)
  have hpl0:(Lg.putR ⟨en+1,prev,txn,kind,page,next,nu,⟨ok,os,oo,on⟩,how,root,⟨ek,ep,es⟩,ts,ds⟩).length≤40008:=by rw[Lg.putR_len];have:=(Rc.bodyB_len hR).2;omega
  obtain⟨x,hx⟩:=ex (⟨(Lg.putR ⟨en+1,prev,txn,kind,page,next,nu,⟨ok,os,oo,on⟩,how,root,⟨ek,ep,es⟩,ts,ds⟩).toArray⟩:ByteArray)
  have hxs:(Lg.putR ⟨en+1,prev,txn,kind,page,next,nu,⟨ok,os,oo,on⟩,how,root,⟨ek,ep,es⟩,ts,ds⟩).length=x.size:=by rw[hx];show _=((Lg.putR ⟨en+1,prev,txn,kind,page,next,nu,⟨ok,os,oo,on⟩,how,root,⟨ek,ep,es⟩,ts,ds⟩).toArray).size;simp
  rw[hxs]at HFU2 HOK2 hpl0
  rw[← hx]at HP HOK2
  have hpl:=hpl0
  clear HPY HPN HN HFU HOK hR hx hxs hpl0
  go_enter Tryz.func30,Tryz.ntmps30
  go_upto_region 1 with fail
  have H0:=nW3 w #[fr,n,en,sf,tl] 31 (rcA lsn prev txn kind page next nu ok os oo on how root ek ep es (.slice A ts.length c) (.slice D ds.length d)) 55 #[(),(),(),(),""] 31
  obtain⟨W0,hW0⟩:=exW H0
  have hs0:W0.heap.size=w.heap.size+3:=by rw[hW0];simp
  rw[← hW0]at H0 ⊢
  have hc0:=blkCell H0.out.get0
  have hc1:=blkCell H0.out.get1
  have hz1:=blkFrozen H0.out.get1
  clear hW0
  go_upto_region 2 with fail
  have H1:=Hq (show BxL w.heap.size w [(#[fr,n,en,sf,tl],31),((rcA (en+1) prev txn kind page next nu ok os oo on how root ek ep es (.slice A ts.length c) (.slice D ds.length d)),55),(#[(),(),(),(),""],31)] (W0.setCell ⟨w.heap.size+1,0,none⟩ (.int .i64 (en+1)))from by have h:=H0.out.set 1 0 (.int .i64 (en+1)) _ rfl;simpa using h)
  obtain⟨W1,hW1⟩:=ex (W0.setCell ⟨w.heap.size+1,0,none⟩ (.int .i64 (en+1)))
  rw[← hW1]at H1 ⊢
  clear hW1 hc0 hc1 hz1 H0 hs0
  have HX1:=Hq H1.out.get1
  go_upto_region 3 with(first
   |(with_reducible refine lL HX1.out Tryz.underlying55 ?_)
   |(go_at_call 67;(with_reducible refine(HP.out _ H1.out.below).mono ?_);rintro e w2 ⟨rfl,hb2⟩))
  have H2:=Hq (H1.out.step hb2)
  clear hb2 H1 HX1 HP
  have hm:IntKind.i64.wrap (n*128)=n*128:=IntWalk.i64_in _ (by omega)
  have hm2:IntKind.i64.wrap (n*128-(x.size:Int))=n*128-(x.size:Int):=IntWalk.i64_in _ (by omega)
  have hm3:IntKind.i64.wrap (en+(x.size:Int))=en+(x.size:Int):=IntWalk.i64_in _ (by omega)
  by_cases hfull:n*128-(x.size:Int)<en
  ·have HO:=Hq (HFU2.out hfull)
   have HX2:=Hq (show w2.heap[w.heap.size]? =some (.cells #[fr,n,en,sf,tl] 31 (0,0))from by have h:=H2.out.get0;simpa using h)
   have hc2:=blkCell HX2.out
   clear HFU2 HOK2
   go_wp2_with (first
    |(with_reducible refine lL HX2.out Tryz.underlying31 ?_)
    |(with_reducible refine lS #[fr,n,en,sf,tl] H2.out.get2 ?_))
   refine bodyPost_ret (v:=.tuple #[.agg #[fr,n,en,sf,tl],(),.int .i64 18]) (results_cell3 rfl _ _ rfl (load_whole (setRow_heap _ _ _ _ _ _ H2.out.get2) Tryz.underlying31 Kr Kr) rfl rfl) rfl ?_
   rw[HO.out]
   exact⟨rfl,(H2.out.row 2 _ _ rfl).below⟩
  ·have HO:=Hq (HOK2.out (by omega))
   have hadd:∀ W:World,(Op.stringOp .add tl x).run Tryz.prog W= .ok (.string (tl++x)) W:=fun W=>run_string_add_sum W _ _ (by omega)
   have HX2:=Hq (show w2.heap[w.heap.size]? =some (.cells #[fr,n,en,sf,tl] 31 (0,0))from by have h:=H2.out.get0;simpa using h)
   have hc2:=blkCell HX2.out
   have hz2:=blkFrozen HX2.out
   clear HFU2 HOK2
   go_upto_region 8 with fail
   have H3:=Hq (show BxL w.heap.size w [(#[fr,n,.int .i64 (en+(x.size:Int)),sf,tl],31),((rcA (en+1) prev txn kind page next nu ok os oo on how root ek ep es (.slice A ts.length c) (.slice D ds.length d)),55),(#[(),(),(),(),""],31)] (w2.setCell ⟨w.heap.size,2,none⟩ (.int .i64 (en+(x.size:Int))))from by have h:=H2.out.set 0 2 (.int .i64 (en+(x.size:Int))) _ rfl;simpa using h)
   obtain⟨W3,hW3⟩:=ex (w2.setCell ⟨w.heap.size,2,none⟩ (.int .i64 (en+(x.size:Int))))
   rw[← hW3]at H3 ⊢
   clear hW3 hc2 hz2 HX2 H2
   have hc3:=blkCell H3.out.get0
   have hz3:=blkFrozen H3.out.get0
   go_upto_region 9 with fail
   have H4:=Hq (show BxL w.heap.size w [(#[fr,n,.int .i64 (en+(x.size:Int)),sf,.string (tl++x)],31),((rcA (en+1) prev txn kind page next nu ok os oo on how root ek ep es (.slice A ts.length c) (.slice D ds.length d)),55),(#[(),(),(),(),""],31)] (W3.setCell ⟨w.heap.size,4,none⟩ (.string (tl++x)))from by have h:=H3.out.set 0 4 (.string (tl++x)) _ rfl;simpa using h)
   obtain⟨W4,hW4⟩:=ex (W3.setCell ⟨w.heap.size,4,none⟩ (.string (tl++x)))
   rw[← hW4]at H4 ⊢
   clear hW4 hc3 hz3 H3 hadd
   have HD4:=Hq H4.out.drew
   refine rgH (S:=(fun u=>u.heap[w.heap.size]? =some (.cells #[fr,n,.int .i64 (en+(x.size:Int)),sf,.string (tl++x)] 31 (0,0))∧u.heap[w.heap.size+1]? =some (.cells (rcA (en+1) prev txn kind page next nu ok os oo on how root ek ep es (.slice A ts.length c) (.slice D ds.length d)) 55 (0,0)))) (fun hHeld=>?_) (by first|exact hSn|exact⟨(by have h:=HD4.out.get0;simpa using h),HD4.out.get1⟩)
   refine tkP 0 ?_;refine tkP 1 ?_;refine tkP 2 ?_
   refine rdP 3 fun K hK=>?_
   refine wantedIf (by rfl) ?_
   refine sW #[fr,n,.int .i64 (en+(x.size:Int)),sf,.string (tl++x)] HD4.out.get2 ?_
   have hB5:=HD4.out.row 2 #[fr,n,.int .i64 (en+(x.size:Int)),sf,.string (tl++x)] _ rfl
   have hSn:=And.intro (show _=some (Obj.cells #[fr,n,.int .i64 (en+(x.size:Int)),sf,.string (tl++x)] 31 (0,0))from by have h:=hB5.get 0 _ rfl;simpa using h) (hB5.get 1 _ rfl)
   refine hKo hK (fun hHeld=>?_) (by first|exact hSn|exact⟨(by have h:=HD4.out.get0;simpa using h),HD4.out.get1⟩)
   clear hK K
   try simp only[Act.put]
   refine tkP 4 ?_;refine tkP 5 ?_
   refine wpAnyH_done Kr ?_ _
   clear hHeld
   go_wp2_with fail
   refine bodyPost_ret (v:=.tuple #[.agg #[fr,n,.int .i64 (en+(x.size:Int)),sf,.string (tl++x)],.int .i64 (en+1),()]) (results_cell3 rfl _ _ rfl (load_whole (setRow_heap _ _ _ _ _ _ HD4.out.get2) Tryz.underlying31 Kr Kr) rfl rfl) rfl ?_
   rw[HO.out]
   exact⟨rfl,hB5.below⟩
 ·have HO:=Hq (HN.out hR)
  have HP:=Hq (HPN.out hR)
  clear HPY HPN HN HFU HOK hR
  go_enter Tryz.func30,Tryz.ntmps30
  go_upto_region 1 with fail
  have H0:=nW3 w #[fr,n,en,sf,tl] 31 (rcA lsn prev txn kind page next nu ok os oo on how root ek ep es (.slice A ts.length c) (.slice D ds.length d)) 55 #[(),(),(),(),""] 31
  obtain⟨W0,hW0⟩:=exW H0
  have hs0:W0.heap.size=w.heap.size+3:=by rw[hW0];simp
  rw[← hW0]at H0 ⊢
  have hc0:=blkCell H0.out.get0
  have hc1:=blkCell H0.out.get1
  have hz1:=blkFrozen H0.out.get1
  clear hW0
  go_upto_region 2 with fail
  have H1:=Hq (show BxL w.heap.size w [(#[fr,n,en,sf,tl],31),((rcA (en+1) prev txn kind page next nu ok os oo on how root ek ep es (.slice A ts.length c) (.slice D ds.length d)),55),(#[(),(),(),(),""],31)] (W0.setCell ⟨w.heap.size+1,0,none⟩ (.int .i64 (en+1)))from by have h:=H0.out.set 1 0 (.int .i64 (en+1)) _ rfl;simpa using h)
  obtain⟨W1,hW1⟩:=ex (W0.setCell ⟨w.heap.size+1,0,none⟩ (.int .i64 (en+1)))
  rw[← hW1]at H1 ⊢
  clear hW1 hc0 hc1 hz1 H0 hs0
  have HX1:=Hq H1.out.get1
  go_upto_region 3 with(first
   |(with_reducible refine lL HX1.out Tryz.underlying55 ?_)
   |(go_at_call 67;(with_reducible refine(HP.out _ H1.out.below).mono ?_);rintro e w2 ⟨rfl,hb2⟩))
  have H2:=Hq (H1.out.step hb2)
  clear hb2 H1 HX1 HP
  have HX2:=Hq (show w2.heap[w.heap.size]? =some (.cells #[fr,n,en,sf,tl] 31 (0,0))from by have h:=H2.out.get0;simpa using h)
  go_wp2_with (first
   |(with_reducible refine lL HX2.out Tryz.underlying31 ?_)
   |(with_reducible refine lS #[fr,n,en,sf,tl] H2.out.get2 ?_))
  refine bodyPost_ret (v:=.tuple #[.agg #[fr,n,en,sf,tl],(),.int .i64 1]) (results_cell3 rfl _ _ rfl (load_whole (setRow_heap _ _ _ _ _ _ H2.out.get2) Tryz.underlying31 Kr Kr) rfl rfl) rfl ?_
  rw[HO.out]
  exact⟨rfl,(H2.out.row 2 _ _ rfl).below⟩
end Go.Proofs.YtilakddepaplhaaGreat
