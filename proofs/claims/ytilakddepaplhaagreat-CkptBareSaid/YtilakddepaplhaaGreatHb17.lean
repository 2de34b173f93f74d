import Derived.Test.YtilakddepaplhaaGreatHb00
import Derived.Test.YtilakddepaplhaaGreatHb14
import Derived.Test.YtilakddepaplhaaGreatHb11
import Derived.Test.YtilakddepaplhaaGreatHb07
import Derived.Test.YtilakddepaplhaaGreatHb13
set_option maxRecDepth 100000
set_option maxHeartbeats 16000000
set_option linter.unusedSimpArgs false
namespace Go.Proofs.YtilakddepaplhaaGreat
open Go.RowKit
theorem wp_appRw {P:Program}{o:Oper}{a:Act}{K:Act→World→Prop}{Q:Exit→Act→World→Prop}(w:World)(s x:Operand)(t e:TypeId)(i0:TypeInfo)(z:Value)(size bytes:Nat)
 (ht:P.underlying t=some (.slice e)) (hi:P.info? e=some i0) (hz:i0.zero=some z) (hsz:i0.size=size) (hby:i0.bytes=bytes) (hzc:z.cells.size=size) (hpos:0<size)
 (ho:o.op= .call {callee:=.builtin .append,args:=#[s,x],argTypes:=#[t,t]})
 (B:Nat) (v:Value) (n:Nat) (xs:List Value) (hs:a.eval s=v) (hown:w.ownsRow B e size v n xs) (A:Option Addr) (m c:Nat) (ys:List Value) (hx:a.eval x= .slice A m c) (hy:Reads w A c m ys) (hyl:ys.length=m*size) (h1:∀ u∈ys,u.oneCell'=true)
 (hlen:n+m≤4398046511104) (hbs:bytes≤32) (hbase:B≤w.heap.size)
 (h:∀ v' w',w'.ownsRow B e size v' (n+m) (xs++ys)→w.grownBy w' v.ownBlock→Below B w w'→K (a.put o.dst v') w'):o.wp P a w K Q:=by
 rcases A with _|ad
 ·have hn:m=0:=by
   rcases Nat.eq_zero_or_pos m with h0|h0
   ·exact h0
   ·obtain⟨b,off,e,_⟩:=hy h0
    cases e
  subst hn
  have hys:ys=[]:=List.eq_nil_of_length_eq_zero (by simpa using hyl)
  subst hys
  have hrun:=run_app_nil (ty:=o.type) ht hi hown c
  unfold Oper.wp execOp
  simp only[ho,resolve,invoke,builtin,Sem.run_bind,Sem.run_pure,Result.andThen_ok,List.map_toArray,List.map_cons,List.map_nil,hs,hx,hrun]
  exact h v w (by simpa using hown) (World.grownBy.refl w _) (Below.refl _ _)
 ·refine wp_append_own w s x _ ho B e i0 z size bytes ht hi hz hsz hby hzc hpos v n xs hs hown ad m c ys hx hyl ?_ h1 (by simp only[maxLen];omega) ?_ hbase ?_
  ·intro j u hu
   have hpos:0<m:=by
    have:=(List.getElem?_eq_some_iff.1 hu).1
    rcases Nat.eq_zero_or_pos m with h0|h0
    ·subst h0;rw[Nat.zero_mul]at hyl;omega
    ·exact h0
   obtain⟨b,off,e,_,_,hE⟩:=hy hpos
   injection e with e
   subst e
   rw[show(⟨b,off,none⟩:Addr).add j=⟨b,off+j,none⟩from Addr.add_mid b off j]
   exact hE j u hu
  ·have:(n+m)*bytes≤4398046511104*32:=Nat.mul_le_mul hlen hbs
   omega
  ·intro v' w' h1 h2 _
   exact h v' w' h1 h2 ((Below.refl _ _).grown h2 hbase (fun k hk=>(hown.lt k hk).1))
theorem wp_pushW {P:Program}{o:Oper}{a:Act}{K:Act→World→Prop}{Q:Exit→Act→World→Prop}(w:World)(s x:Operand)(t e:TypeId){z:Value}{size bytes:Nat}
 (ht:P.underlying t=some (.slice e)) (hi:(P.info? e).map (fun i=>(i.zero,i.size,i.bytes))=some (some z,size,bytes)) (hzc:z.cells.size=size) (hpos:0<size) (hby:bytes≤32)
 (ho:o.op= .call {callee:=.builtin .append,args:=#[s,x],argTypes:=#[t,t]})
 (B:Nat) (v:Value) (n:Nat) (xs:List Value) (hs:a.eval s=v) (hown:w.ownsRow B e size v n xs) (g:Nat) (cs:List Value) (T:TypeId) (hx:a.eval x= .slice (some ⟨g,0,none⟩) 1 1) (hg:w.heap[g]? =some (.cells cs.toArray T (0,0)))
 (hcl:cs.length=size) (h1:∀ u∈cs,u.oneCell'=true) (hlen:n+1≤4398046511104) (hbase:B≤w.heap.size)
 (h:∀ v' w',w'.ownsRow B e size v' (n+1) (xs++cs)→w.grownBy w' v.ownBlock→Below B w w'→K (a.put o.dst v') w'):o.wp P a w K Q:=by
 obtain⟨i0,hi,hz0,hz1,hz2⟩:=info_parts hi
 exact wp_appRw w s x t e i0 _ size bytes ht hi hz0 hz1 hz2 hzc hpos ho B v n xs hs hown _ 1 1 cs hx (reads_blk (cs:=cs) hg (Nat.le_refl _)) (by omega) h1 hlen hby hbase h
theorem wpList_pushW {P:Program}{ops:Array Oper}{rest:List Oper}{o:Oper}{a:Act}{Q:Exit→Act→World→Prop}{w:World}(hw:Region.wanted o (yielded ops a.tmps)=true)(s x:Operand)(t e:TypeId){z:Value}{size bytes:Nat}
 (ht:P.underlying t=some (.slice e)) (hi:(P.info? e).map (fun i=>(i.zero,i.size,i.bytes))=some (some z,size,bytes)) (hzc:z.cells.size=size) (hpos:0<size) (hby:bytes≤32)
 (ho:o.op= .call {callee:=.builtin .append,args:=#[s,x],argTypes:=#[t,t]})
 (B:Nat) (v:Value) (n:Nat) (xs:List Value) (hs:a.eval s=v) (hown:w.ownsRow B e size v n xs) (g:Nat) (cs:List Value) (T:TypeId) (hx:a.eval x= .slice (some ⟨g,0,none⟩) 1 1) (hg:w.heap[g]? =some (.cells cs.toArray T (0,0)))
 (hcl:cs.length=size) (h1:∀ u∈cs,u.oneCell'=true) (hlen:n+1≤4398046511104) (hbase:B≤w.heap.size)
 (h:∀ v' w',w'.ownsRow B e size v' (n+1) (xs++cs)→w.grownBy w' v.ownBlock→Below B w w'→wpList P ops Q rest (a.put o.dst v') w'):wpList P ops Q (o::rest) a w:=
 listWants hw fun _ hK=>wp_pushW w s x t e ht hi hzc hpos hby ho B v n xs hs hown g cs T hx hg hcl h1 hlen hbase (fun v' w' a b c=>hK _ _ (h v' w' a b c))
theorem ownTake {w:World}{B size g n c:Nat}{e:TypeId}{xs:List Value}(h:w.ownsRow B e size (.slice (some ⟨g,0,none⟩) n c) n xs){i:Nat}(hi:i≤n):w.ownsRow B e size (.slice (some ⟨g,0,none⟩) i c) i (xs.take (i*size)):=by
 obtain⟨hl,h2⟩:=h
 refine⟨by rw[List.length_take,hl];exact Nat.min_eq_left (Nat.mul_le_mul_right _ hi),?_⟩
 rcases h2 with⟨h0,_⟩|⟨g',cap,cur,hv,hg,hh,hn,hcap,hsz,ht⟩
 ·cases h0
 ·injection hv with hv1 hv2 hv3
  injection hv1 with hv1
  injection hv1 with hv1 _ _
  subst hv1 hv3
  refine .inr ⟨g,c,cur,rfl,hg,hh,Nat.le_trans hi hn,hcap,hsz,?_⟩
  rw[← ht,List.take_take,Nat.min_eq_left (Nat.mul_le_mul_right _ hi)]
theorem rplace_any (l:List Rc.TxnAt)(n:Int)(hl:l.length≤4398046510976)(A:Option Addr)(c:Nat)(w:World)(hr:TxR w A c l):
 Calls Tryz.prog 104 #[.slice A l.length c,n] w (PlaceOut (Tx.placeT l n) w):=by
 have HR:=Hq hr
 have HY:=Hq (fun k w' (hk:k<l.length) (h1:l[k].txn=n) (h2:∀ j (hj:j<k),l[j].txn≠n) (hb:Below w.heap.size w w')=>show PlaceOut (Tx.placeT l n) w (.returned (.int .i64 (k:Int))) w' from by rw[Tx.placeT_at hk h1 h2];exact⟨rfl,hb⟩)
 have HZ:=Hq (fun w' (h:∀ j (hj:j<l.length),l[j].txn≠n) (hb:Below w.heap.size w w')=>show PlaceOut (Tx.placeT l n) w (.returned (.int .i64 (-1))) w' from by
  rw[Tx.placeT_no (fun t ht=>by obtain⟨j,hj,rfl⟩:=List.mem_iff_getElem.1 ht;exact h j hj)];exact⟨rfl,hb⟩)
 generalize PlaceOut (Tx.placeT l n) w=Q at HY HZ ⊢
 clear hr
 go_enter Tryz.func104,Tryz.ntmps104
 go_wp2_with fail
 go_loopw [5] (fun v wr=>∃ k:Nat,v= .int .i64 (k:Int)∧k≤l.length∧(∀ j (hj:j<k) (h:j<l.length),l[j].txn≠n)∧Below w.heap.size w wr) (fun v _=>l.length-(intOf v).toNat)
 case atStart=>exact⟨0,rfl,Nat.zero_le _,fun j hj=>absurd hj (Nat.not_lt_zero _),Below.refl _ _⟩
 case round=>
  obtain⟨k,rfl,hk,hno,hbw⟩:=hrel
  have HBW:=Hq hbw
  have HNO:=Hq hno
  clear hbw hno
  by_cases hlt:k<l.length
  ·have hk0:(0:Int)≤(k:Int):=by omega
   have hk1:(k:Int)<(l.length:Int):=by omega
   have hwk:IntKind.i64.wrap ((k:Int)+1)=(k:Int)+1:=IntWalk.i64_in _ (by omega)
   obtain⟨b,o,rfl,hc,hbl,hcell⟩:=read_at txC_len (HR.out.below HBW.out) hlt
   have q:=hcell 0 _ rfl
   simp only[Nat.add_zero]at q
   clear hcell
   by_cases he:l[k].txn=n
   ·rw[he]at q
    have HE:=Hq (HY.out k wr hlt he (fun j hj=>HNO.out j hj (by omega)) HBW.out)
    clear he
    go_wp2_with fail
    exact HE.out
   ·have HNO2:=Hq (show ∀ j (hj:j<k+1) (h:j<l.length),l[j].txn≠n from fun j hj h=>by
     rcases Nat.lt_or_ge j k with h1|h1
     ·exact HNO.out j h1 h
     ·obtain rfl:j=k:=by omega
      exact he)
    generalize l[k].txn=y at q he
    have he2:(y==n)=false:=by simpa using he
    clear he
    go_wp2_with fail
    go_roundw
    case rel=>exact⟨k+1,by go_num,by omega,HNO2.out,HBW.out⟩
    case measure=>simp[intOf];omega
  ·have hk1:¬ (k:Int)<(l.length:Int):=by omega
   have HE:=Hq (HZ.out wr (fun j hj=>HNO.out j (by omega) hj) HBW.out)
   go_wp2_with fail
   exact HE.out
theorem rnoted_any (k:Int)(w:World):Calls Tryz.prog 105 #[k] w fun e w'=>e= .returned (.bool (decide (1≤k∧k≤7)))∧Below w.heap.size w w':=by
 by_cases h1:1≤k
 ·by_cases h2:k≤7
  ·rw[decide_eq_true ⟨h1,h2⟩]
   go_enter Tryz.func105,Tryz.ntmps105
   go_wp2_with fail
   go_ret
   exact⟨by simp,Below.refl _ _⟩
  ·rw[decide_eq_false (fun h=>h2 h.2)]
   go_enter Tryz.func105,Tryz.ntmps105
   go_wp2_with fail
   go_ret
   exact⟨by simp,Below.refl _ _⟩
 ·rw[decide_eq_false (fun h=>h1 h.1)]
  go_enter Tryz.func105,Tryz.ntmps105
  go_wp2_with fail
  go_ret
  exact⟨by simp,Below.refl _ _⟩
def RNoteOut (l:List Rc.TxnAt)(w:World)(e:Ending)(w':World):Prop:=
 ∃ A' c',e= .returned (.slice A' l.length c')∧TxR w' A' c' l∧NewT 0 w' 92 A'∧Below w.heap.size w w'
theorem rnote_any (l:List Rc.TxnAt)(hl:l.length≤4398046510976)(A:Option Addr)(c:Nat)(r:Rc.Rec)(AT AD:Option Addr)(n1 c1 m1 d1:Nat)(w:World)(hr:TxR w A c l):
 Calls Tryz.prog 65 #[.slice A l.length c,recV r (.slice AT n1 c1) (.slice AD m1 d1)] w (RNoteOut (Tx.noteT l r) w):=by
 obtain⟨i0,hi0,hz0,hz1,hz2⟩:=info_parts info_tx
 have HR:=Hq hr
 have HOUT:=Hq (fun(M:List Rc.TxnAt) (v:Value) (B:Nat) w' (h:Tx.noteT l r=M) (ho:w'.ownsRow B 92 4 v M.length (M.flatMap txC)) (hb:Below w.heap.size w w')=>show RNoteOut (Tx.noteT l r) w (.returned v) w' from by
  rw[h]
  obtain⟨A2,c2,rfl⟩:=ownLen ho
  exact⟨_,_,rfl,own_reads ho,(NewT.own ho).mono (Nat.zero_le _),hb⟩)
 have HOWN:=Hq (fun(M:List Rc.TxnAt) (g N c B:Nat) w' (h:Tx.noteT l r=M) (ho:w'.ownsRow B 92 4 (.slice (some ⟨g,0,none⟩) N c) N (M.flatMap txC)) (hN:M.length=N) (_:w.heap.size≤B) (hb:Below w.heap.size w w')=>show RNoteOut (Tx.noteT l r) w (.returned (.slice (some ⟨g,0,none⟩) N c)) w' from by
  rw[h]
  subst hN
  exact⟨_,_,rfl,own_reads ho,(NewT.own ho).mono (Nat.zero_le _),hb⟩)
 have N0:=Hq (@Tx.noteT_no l r)
 have N1:=Hq (@Tx.noteT_gone l r)
 have N2:=Hq (@Tx.noteT_new l r)
 have N3:=Hq (fun i=> @Tx.noteT_end l r i)
 have N4:=Hq (fun i=> @Tx.noteT_old l r i)
 have HPL:=Hq (fun n W (hb:Below w.heap.size w W)=>rplace_any l n hl A c W (hr.below hb))
 have HND:=Hq (fun k W=>rnoted_any k W)
 generalize Tx.noteT l r=R at*
 generalize RNoteOut R w=Q at HOUT HOWN ⊢
 clear hr
 obtain⟨lsn,prev,txn,kind,page,next,nu,⟨ok,os,oo,on⟩,how,root,⟨ek,ep,es⟩,ts,ds⟩:=r
 dsimp only[recV,recA]
 obtain⟨W0,hW0⟩:=ex (w.alloc (.cells (rcA lsn prev txn kind page next nu ok os oo on how root ek ep es (.slice AT n1 c1) (.slice AD m1 d1)) 55))
 have H0:=Hq (show W0.heap[w.heap.size]? =some (.cells (rcA lsn prev txn kind page next nu ok os oo on how root ek ep es (.slice AT n1 c1) (.slice AD m1 d1)) 55 (0,0))from by rw[hW0];exact heap_alloc_new _ _)
 have B0:=Hq (show Below w.heap.size w W0 from by rw[hW0];exact allocB _ _)
 have HSZ:=Hq (show W0.heap.size=w.heap.size+1 from by rw[hW0];simp)
 have HRD:=Hq ((HR.out.below B0.out).below (allocB W0 (.cells #[] 92)))
 have HPL0:=Hq (HPL.out txn)
 clear HPL
 by_cases hno:Tx.noted ⟨lsn,prev,txn,kind,page,next,nu,⟨ok,os,oo,on⟩,how,root,⟨ek,ep,es⟩,ts,ds⟩
 rotate_left
 ·have HS:=Hq (N0.out hno)
  unfold Tx.noted at hno
  simp only at hno
  clear N0 N1 N2 N3 N4 HOWN
  by_cases h1:txn<1
  ·generalize Tx.placeI (Tx.placeT l txn)=pk at HPL0
   clear hno
   go_enter Tryz.func65,Tryz.ntmps65
   go_upto_region 1 with fail
   rw[← hW0]
   clear hW0
   go_upto_region 2 with(at_builtin;refine listWants Kr fun K hK=>wp_appRw (W0.alloc (.cells #[] 92)) (.tmp 7) (.tmp 8) 35 92 i0 (.agg #[(),(),(),false]) 4 32 Tryz.underlying35 hi0 hz0 hz1 hz2 rfl (by omega) rfl W0.heap.size _ 0 [] rfl (ownEmpty W0 92 4) A l.length c (l.flatMap txC) rfl HRD.out (by rw[flat_len txC_len]) (txC_all l) (by omega) (by omega) (by simp) ?_;intro v1 w1 ho1 hg1 hb1;refine hK _ _ ?_)
   rw[List.nil_append,Nat.zero_add]at ho1
   have hsz0:=HSZ.out
   have HO1:=Hq ho1
   have H1:=Hq (show w1.heap[w.heap.size]? =some (.cells (rcA lsn prev txn kind page next nu ok os oo on how root ek ep es (.slice AT n1 c1) (.slice AD m1 d1)) 55 (0,0))from(hb1.block _ (by omega)).trans (blkOld H0.out (allocB W0 _)))
   have B1:=Hq (show Below w.heap.size w w1 from(joinB B0.out (allocB W0 (.cells #[] 92))).trans (hb1.mono (by omega)))
   have hc1:=blkCell H1.out
   have HP1:=HPL0.out w1 B1.out
   unfold PlaceOut at HP1
   clear HPL0 ho1 hg1 hb1
   go_upto_region 3 with(go_at_call 104;(with_reducible refine HP1.mono ?_);rintro e w2 ⟨rfl,hb2⟩;have hc2:=blkCell (blkOld H1.out hb2))
   have H2:=Hq (blkOld H1.out hb2)
   have B2:=Hq (joinB B1.out hb2)
   have HO2:=Hq (ownBelow HO1.out hb2)
   have HR2:=Hq (HR.out.below B2.out)
   clear hb2 hc1 HO1 H1 B1 HP1
   go_wp2_with fail
   exact HOUT.out l _ _ _ HS.out HO2.out B2.out
  ·have hkd:decide (1≤kind∧kind≤7)=false:=decide_eq_false (fun h=>hno ⟨by omega,h.1,h.2⟩)
   have HNDK:=Hq (fun W=>HND.out kind W)
   rw[hkd]at HNDK
   clear hno hkd HND
   go_enter Tryz.func65,Tryz.ntmps65
   go_upto_region 1 with fail
   rw[← hW0]
   clear hW0
   go_upto_region 2 with(at_builtin;refine listWants Kr fun K hK=>wp_appRw (W0.alloc (.cells #[] 92)) (.tmp 7) (.tmp 8) 35 92 i0 (.agg #[(),(),(),false]) 4 32 Tryz.underlying35 hi0 hz0 hz1 hz2 rfl (by omega) rfl W0.heap.size _ 0 [] rfl (ownEmpty W0 92 4) A l.length c (l.flatMap txC) rfl HRD.out (by rw[flat_len txC_len]) (txC_all l) (by omega) (by omega) (by simp) ?_;intro v1 w1 ho1 hg1 hb1;refine hK _ _ ?_)
   rw[List.nil_append,Nat.zero_add]at ho1
   have hsz0:=HSZ.out
   have HO1:=Hq ho1
   have H1:=Hq (show w1.heap[w.heap.size]? =some (.cells (rcA lsn prev txn kind page next nu ok os oo on how root ek ep es (.slice AT n1 c1) (.slice AD m1 d1)) 55 (0,0))from(hb1.block _ (by omega)).trans (blkOld H0.out (allocB W0 _)))
   have B1:=Hq (show Below w.heap.size w w1 from(joinB B0.out (allocB W0 (.cells #[] 92))).trans (hb1.mono (by omega)))
   have hc1:=blkCell H1.out
   have HP1:=HPL0.out w1 B1.out
   unfold PlaceOut at HP1
   clear HPL0 ho1 hg1 hb1
   go_upto_region 3 with(go_at_call 104;(with_reducible refine HP1.mono ?_);rintro e w2 ⟨rfl,hb2⟩;have hc2:=blkCell (blkOld H1.out hb2))
   have H2:=Hq (blkOld H1.out hb2)
   have B2:=Hq (joinB B1.out hb2)
   have HO2:=Hq (ownBelow HO1.out hb2)
   have HR2:=Hq (HR.out.below B2.out)
   clear hb2 hc1 HO1 H1 B1 HP1
   go_wp2_with (go_at_call 105;(with_reducible refine(HNDK.out _).mono ?_);rintro e w3 ⟨rfl,hb3⟩;have hc3:=blkCell (blkOld H2.out hb3))
   exact HOUT.out l _ _ _ HS.out (ownBelow HO2.out hb3) (joinB B2.out hb3)
 have HNO:=Hq hno
 unfold Tx.noted at hno
 simp only at hno
 have h1:¬ txn<1:=by omega
 have hkd:decide (1≤kind∧kind≤7)=true:=decide_eq_true hno.2
 have HKR:=Hq (show 1≤kind∧kind≤7 from hno.2)
 have HNDK:=Hq (fun W=>HND.out kind W)
 rw[hkd]at HNDK
 clear N0 hno hkd HND
 cases hp:Tx.placeT l txn with
 |none=>
  rw[hp]at HPL0
  by_cases hk7:kind=7
  ·have HS:=Hq (N1.out HNO.out hp hk7)
   have hk7':(kind==7)=true:=by simpa using hk7
   clear N1 N2 N3 N4 HOWN hp hk7
   go_enter Tryz.func65,Tryz.ntmps65
   go_upto_region 1 with fail
   rw[← hW0]
   clear hW0
   go_upto_region 2 with(at_builtin;refine listWants Kr fun K hK=>wp_appRw (W0.alloc (.cells #[] 92)) (.tmp 7) (.tmp 8) 35 92 i0 (.agg #[(),(),(),false]) 4 32 Tryz.underlying35 hi0 hz0 hz1 hz2 rfl (by omega) rfl W0.heap.size _ 0 [] rfl (ownEmpty W0 92 4) A l.length c (l.flatMap txC) rfl HRD.out (by rw[flat_len txC_len]) (txC_all l) (by omega) (by omega) (by simp) ?_;intro v1 w1 ho1 hg1 hb1;refine hK _ _ ?_)
   rw[List.nil_append,Nat.zero_add]at ho1
   have hsz0:=HSZ.out
   have HO1:=Hq ho1
   have H1:=Hq (show w1.heap[w.heap.size]? =some (.cells (rcA lsn prev txn kind page next nu ok os oo on how root ek ep es (.slice AT n1 c1) (.slice AD m1 d1)) 55 (0,0))from(hb1.block _ (by omega)).trans (blkOld H0.out (allocB W0 _)))
   have B1:=Hq (show Below w.heap.size w w1 from(joinB B0.out (allocB W0 (.cells #[] 92))).trans (hb1.mono (by omega)))
   have hc1:=blkCell H1.out
   have HP1:=HPL0.out w1 B1.out
   unfold PlaceOut at HP1
   simp only[Tx.placeI]at HP1
   clear HPL0 ho1 hg1 hb1
   go_upto_region 3 with(go_at_call 104;(with_reducible refine HP1.mono ?_);rintro e w2 ⟨rfl,hb2⟩;have hc2:=blkCell (blkOld H1.out hb2))
   have H2:=Hq (blkOld H1.out hb2)
   have B2:=Hq (joinB B1.out hb2)
   have HO2:=Hq (ownBelow HO1.out hb2)
   have HR2:=Hq (HR.out.below B2.out)
   clear hb2 hc1 HO1 H1 B1 HP1
   go_wp2_with (go_at_call 105;(with_reducible refine(HNDK.out _).mono ?_);rintro e w3 ⟨rfl,hb3⟩;have hc3:=blkCell (blkOld H2.out hb3))
   exact HOUT.out l _ _ _ HS.out (ownBelow HO2.out hb3) (joinB B2.out hb3)
  ·have HRES:=Hq (N2.out HNO.out hp hk7)
   have hk7':(kind==7)=false:=by simpa using hk7
   clear N1 N2 N3 N4 HOUT hp
   go_enter Tryz.func65,Tryz.ntmps65
   go_upto_region 1 with fail
   rw[← hW0]
   clear hW0
   go_upto_region 2 with(at_builtin;refine listWants Kr fun K hK=>wp_appRw (W0.alloc (.cells #[] 92)) (.tmp 7) (.tmp 8) 35 92 i0 (.agg #[(),(),(),false]) 4 32 Tryz.underlying35 hi0 hz0 hz1 hz2 rfl (by omega) rfl W0.heap.size _ 0 [] rfl (ownEmpty W0 92 4) A l.length c (l.flatMap txC) rfl HRD.out (by rw[flat_len txC_len]) (txC_all l) (by omega) (by omega) (by simp) ?_;intro v1 w1 ho1 hg1 hb1;refine hK _ _ ?_)
   rw[List.nil_append,Nat.zero_add]at ho1
   have hsz0:=HSZ.out
   have HO1:=Hq ho1
   have H1:=Hq (show w1.heap[w.heap.size]? =some (.cells (rcA lsn prev txn kind page next nu ok os oo on how root ek ep es (.slice AT n1 c1) (.slice AD m1 d1)) 55 (0,0))from(hb1.block _ (by omega)).trans (blkOld H0.out (allocB W0 _)))
   have B1:=Hq (show Below w.heap.size w w1 from(joinB B0.out (allocB W0 (.cells #[] 92))).trans (hb1.mono (by omega)))
   have hc1:=blkCell H1.out
   have HP1:=HPL0.out w1 B1.out
   unfold PlaceOut at HP1
   simp only[Tx.placeI]at HP1
   clear HPL0 ho1 hg1 hb1
   go_upto_region 3 with(go_at_call 104;(with_reducible refine HP1.mono ?_);rintro e w2 ⟨rfl,hb2⟩;have hc2:=blkCell (blkOld H1.out hb2))
   have H2:=Hq (blkOld H1.out hb2)
   have B2:=Hq (joinB B1.out hb2)
   have HO2:=Hq (ownBelow HO1.out hb2)
   have HR2:=Hq (HR.out.below B2.out)
   clear hb2 hc1 HO1 H1 B1 HP1
   obtain⟨A2,c2,rfl⟩:=ownLen HO2.out
   have hs2:=heapLt H2.out
   have hs1:=B2.out.size
   have hlN:(l.length:Int)<((l.length+1:Nat):Int):=by omega
   go_upto_region 10 with(first
    |(go_at_call 105;(with_reducible refine(HNDK.out _).mono ?_);rintro e w3 ⟨rfl,hb3⟩;have hc3:=blkCell (blkOld H2.out hb3))
    |(at_builtin;refine wpList_pushW Kr (.tmp 48) (.tmp 52) 35 92 Tryz.underlying35 info_tx rfl (by omega) (by omega) rfl W0.heap.size _ l.length (l.flatMap txC) rfl (ownBelow (ownBelow HO2.out hb3) (allocB w3 _)) w3.heap.size (txC ⟨txn,0,0,false⟩) 92 rfl (heap_alloc_new w3 _) rfl (txC_one _) (by omega) (by have:=hb3.size;simp;omega) ?_;intro v4 w4 ho4 hg4 hb4))
   have HX:=Hq (show w4.heap[w.heap.size]? =some (.cells (rcA lsn prev txn kind page next nu ok os oo on how root ek ep es (.slice AT n1 c1) (.slice AD m1 d1)) 55 (0,0))from(hb4.block _ (by omega)).trans (blkOld (blkOld H2.out hb3) (allocB w3 _)))
   have HB:=Hq (show Below w.heap.size w w4 from(joinB (joinB B2.out hb3) (allocB w3 _)).trans (hb4.mono (by omega)))
   obtain⟨g,cap,rfl,hgB0⟩:=ownSome ho4 (by omega)
   have hgB:w.heap.size+1≤g:=by omega
   obtain⟨L,hL⟩:∃ L:List Rc.TxnAt,L=l++[⟨txn,0,0,false⟩]:=⟨_,rfl⟩
   have hLf:l.flatMap txC++txC ⟨txn,0,0,false⟩=L.flatMap txC:=by rw[hL,List.flatMap_append];simp
   rw[hLf]at ho4
   obtain⟨N,hN⟩:=ex (l.length+1)
   rw[← hN]at ho4
   rw[← hN]
   obtain⟨k,hk⟩:=ex l.length
   rw[← hk]
   have HO:=Hq (ownMono ho4 (show w.heap.size+1≤W0.heap.size from by omega))
   have HLN:=Hq (show L.length=N from by rw[hL,hN,List.length_append,List.length_singleton])
   have hkL:k<L.length:=by rw[hL,hk,List.length_append,List.length_singleton];omega
   have HRES2:=Hq (show R=L.set k (Tx.tuneT ⟨lsn,prev,txn,kind,page,next,nu,⟨ok,os,oo,on⟩,how,root,⟨ek,ep,es⟩,ts,ds⟩ L[k])from by
    have e:L[k]=⟨txn,0,0,false⟩:=by subst hL hk;simp
    rw[e,hL,hk];exact HRES.out)
   clear HRES
   have HRES:=HRES2
   clear HRES2 hL hLf hN hk ho4 hg4 hb4 hb3 hs2 hs1 hlN hgB0 B0 H0 hc3 hc2 H2 B2 HO2 HR2 HNDK
   obtain⟨W,hWW⟩:=ex w4
   rw[← hWW]at HX HB HO
   rw[← hWW]
   clear hWW
   obtain⟨t,ht⟩:=ex (L[k])
   obtain⟨tn,tl,tx,td⟩:=t
   obtain⟨s1,s2,s3⟩:=rowSet HO.out HLN.out k hkL 1 (by omega) (.int .i64 lsn) ⟨tn,lsn,tx,td⟩ (by rw[← ht];rfl)
   rw[← ht]at s1
   simp only[txC]at s1
   have HT:=Hq ht
   have HO2:=Hq s3
   have hcw:=blkCell HX.out
   have hgne:w.heap.size≠g:=by omega
   have hkN:=HLN.out
   rw[hkN]at hkL
   have hkI:(k:Int)<(N:Int):=by omega
   have hk0:(0:Int)≤(k:Int):=by omega
   clear ht s3 hkN
   go_upto_region 11 with fail
   have HX2:=Hq (show(W.setCell ⟨g,k*4+1,none⟩ (.int .i64 lsn)).heap[w.heap.size]? =some (.cells (rcA lsn prev txn kind page next nu ok os oo on how root ek ep es (.slice AT n1 c1) (.slice AD m1 d1)) 55 (0,0))from(Below.heap_setCell _ _ _ _ hgne).trans HX.out)
   have HB2:=Hq (HB.out.trans ((Below.refl w.heap.size W).setCell (p:=⟨g,k*4+1,none⟩) (by show w.heap.size≤g;omega) (.int .i64 lsn)))
   obtain⟨W2,hW2⟩:=ex (W.setCell ⟨g,k*4+1,none⟩ (.int .i64 lsn))
   rw[← hW2]at HX2 HB2 HO2
   rw[← hW2]
   clear hW2 HX HB HO hcw s1 s2
   have hcw2:=blkCell HX2.out
   have HLN2:=Hq (show(L.set k ⟨tn,lsn,tx,td⟩).length=N from by rw[List.length_set];exact HLN.out)
   have HK2:=Hq (show k<(L.set k ⟨tn,lsn,tx,td⟩).length from by have:=HLN2.out;omega)
   have hsk:∀ y,(L.set k ⟨tn,lsn,tx,td⟩).set k y=L.set k y:=fun y=>List.set_set ..
   have HGE:=Hq (show(L.set k ⟨tn,lsn,tx,td⟩)[k]'HK2.out=⟨tn,lsn,tx,td⟩from by simp)
   have HFIN:=Hq (fun y w' (hy:y=Tx.tuneT ⟨lsn,prev,txn,kind,page,next,nu,⟨ok,os,oo,on⟩,how,root,⟨ek,ep,es⟩,ts,ds⟩ ⟨tn,tl,tx,td⟩) (ho:w'.ownsRow (w.heap.size+1) 92 4 (.slice (some ⟨g,0,none⟩) N cap) N ((L.set k y).flatMap txC)) (hb:Below w.heap.size w w')=>HOWN.out (L.set k y) g N cap (w.heap.size+1) w' (by rw[hy,HT.out];exact HRES.out) ho (by rw[List.length_set];exact HLN.out) (by omega) hb)
   clear HRES HOWN HT
   have hkk:kind=1∨kind=2∨kind=3∨kind=4∨kind=5∨kind=6:=by have:=HKR.out;omega
   clear HKR hk7 HNO
   rcases hkk with rfl|rfl|rfl|rfl|rfl|rfl
   ·obtain⟨u1,u2,u3⟩:=rowSet HO2.out HLN2.out k HK2.out 2 (by omega) (.int .i64 lsn) ⟨tn,lsn,lsn,td⟩ (by rw[HGE.out];rfl)
    rw[HGE.out]at u1
    simp only[txC]at u1
    rw[hsk]at u3
    have HO3:=Hq (HFIN.out ⟨tn,lsn,lsn,td⟩ _ rfl u3 (HB2.out.trans ((Below.refl w.heap.size W2).setCell (p:=⟨g,k*4+2,none⟩) (by show w.heap.size≤g;omega) (.int .i64 lsn))))
    clear u3 hsk
    go_wp2_with fail
    exact HO3.out
   ·obtain⟨u1,u2,u3⟩:=rowSet HO2.out HLN2.out k HK2.out 2 (by omega) (.int .i64 lsn) ⟨tn,lsn,lsn,td⟩ (by rw[HGE.out];rfl)
    rw[HGE.out]at u1
    simp only[txC]at u1
    rw[hsk]at u3
    have HO3:=Hq (HFIN.out ⟨tn,lsn,lsn,td⟩ _ rfl u3 (HB2.out.trans ((Below.refl w.heap.size W2).setCell (p:=⟨g,k*4+2,none⟩) (by show w.heap.size≤g;omega) (.int .i64 lsn))))
    clear u3 hsk
    go_wp2_with fail
    exact HO3.out
   ·obtain⟨u1,u2,u3⟩:=rowSet HO2.out HLN2.out k HK2.out 2 (by omega) (.int .i64 next) ⟨tn,lsn,next,td⟩ (by rw[HGE.out];rfl)
    rw[HGE.out]at u1
    simp only[txC]at u1
    rw[hsk]at u3
    have HO3:=Hq (HFIN.out ⟨tn,lsn,next,td⟩ _ rfl u3 (HB2.out.trans ((Below.refl w.heap.size W2).setCell (p:=⟨g,k*4+2,none⟩) (by show w.heap.size≤g;omega) (.int .i64 next))))
    clear u3 hsk
    go_wp2_with fail
    exact HO3.out
   ·obtain⟨u1,u2,u3⟩:=rowSet HO2.out HLN2.out k HK2.out 2 (by omega) (.int .i64 next) ⟨tn,lsn,next,td⟩ (by rw[HGE.out];rfl)
    rw[HGE.out]at u1
    simp only[txC]at u1
    rw[hsk]at u3
    have HO3:=Hq (HFIN.out ⟨tn,lsn,next,td⟩ _ rfl u3 (HB2.out.trans ((Below.refl w.heap.size W2).setCell (p:=⟨g,k*4+2,none⟩) (by show w.heap.size≤g;omega) (.int .i64 next))))
    clear u3 hsk
    go_wp2_with fail
    exact HO3.out
   ·obtain⟨u1,u2,u3⟩:=rowSet HO2.out HLN2.out k HK2.out 3 (by omega) (.bool true) ⟨tn,lsn,tx,true⟩ (by rw[HGE.out];rfl)
    rw[HGE.out]at u1
    simp only[txC]at u1
    rw[hsk]at u3
    have HO3:=Hq (HFIN.out ⟨tn,lsn,tx,true⟩ _ rfl u3 (HB2.out.trans ((Below.refl w.heap.size W2).setCell (p:=⟨g,k*4+3,none⟩) (by show w.heap.size≤g;omega) (.bool true))))
    clear u3 hsk
    go_wp2_with fail
    exact HO3.out
   ·have HO3:=Hq (HFIN.out ⟨tn,lsn,tx,td⟩ _ rfl HO2.out HB2.out)
    clear hsk
    go_wp2_with fail
    exact HO3.out
 |some i=>
  rw[hp]at HPL0
  obtain⟨hi,-⟩:=Tx.placeT_some hp
  have hin0:¬ (i:Int)<0:=by omega
  by_cases hk7:kind=7
  ·have HS:=Hq (N3.out i HNO.out hp hk7)
   have hk7':(kind==7)=true:=by simpa using hk7
   clear N1 N2 N3 N4 HOWN hp hk7
   go_enter Tryz.func65,Tryz.ntmps65
   go_upto_region 1 with fail
   rw[← hW0]
   clear hW0
   go_upto_region 2 with(at_builtin;refine listWants Kr fun K hK=>wp_appRw (W0.alloc (.cells #[] 92)) (.tmp 7) (.tmp 8) 35 92 i0 (.agg #[(),(),(),false]) 4 32 Tryz.underlying35 hi0 hz0 hz1 hz2 rfl (by omega) rfl W0.heap.size _ 0 [] rfl (ownEmpty W0 92 4) A l.length c (l.flatMap txC) rfl HRD.out (by rw[flat_len txC_len]) (txC_all l) (by omega) (by omega) (by simp) ?_;intro v1 w1 ho1 hg1 hb1;refine hK _ _ ?_)
   rw[List.nil_append,Nat.zero_add]at ho1
   have hsz0:=HSZ.out
   have HO1:=Hq ho1
   have H1:=Hq (show w1.heap[w.heap.size]? =some (.cells (rcA lsn prev txn kind page next nu ok os oo on how root ek ep es (.slice AT n1 c1) (.slice AD m1 d1)) 55 (0,0))from(hb1.block _ (by omega)).trans (blkOld H0.out (allocB W0 _)))
   have B1:=Hq (show Below w.heap.size w w1 from(joinB B0.out (allocB W0 (.cells #[] 92))).trans (hb1.mono (by omega)))
   have hc1:=blkCell H1.out
   have HP1:=HPL0.out w1 B1.out
   unfold PlaceOut at HP1
   simp only[Tx.placeI]at HP1
   clear HPL0 ho1 hg1 hb1
   go_upto_region 3 with(go_at_call 104;(with_reducible refine HP1.mono ?_);rintro e w2 ⟨rfl,hb2⟩;have hc2:=blkCell (blkOld H1.out hb2))
   have H2:=Hq (blkOld H1.out hb2)
   have B2:=Hq (joinB B1.out hb2)
   have HO2:=Hq (ownBelow HO1.out hb2)
   have HR2:=Hq (HR.out.below B2.out)
   clear hb2 hc1 HO1 H1 B1 HP1
   have hwi:IntKind.i64.wrap ((i:Int)+1)=(i:Int)+1:=IntWalk.i64_in _ (by omega)
   obtain⟨g,cap,hv1,hgB⟩:=ownSome HO2.out (by omega)
   subst hv1
   go_upto_region 6 with(go_at_call 105;(with_reducible refine(HNDK.out _).mono ?_);rintro e w3 ⟨rfl,hb3⟩;have hc3:=blkCell (blkOld H2.out hb3))
   obtain⟨w6,hw6⟩:=ex w3.drew
   have HO3:=Hq (show w6.ownsRow W0.heap.size 92 4 (.slice (some ⟨g,0,none⟩) i cap) i ((l.flatMap txC).take (i*4))from by rw[hw6];exact ownTake (ownBelow (ownBelow HO2.out hb3) (Below.refl _ w3).drew) (by omega))
   have B3:=Hq (show Below w.heap.size w w6 from by rw[hw6];exact(joinB B2.out hb3).drew)
   have HR3:=HR.out.below B3.out
   obtain⟨hcap,hcapm⟩:l.length≤cap∧cap≤maxLen:=by
    rcases HO2.out.2 with⟨h0,_⟩|⟨g',cap',cur,hv,_,_,h3,h4,_⟩
    ·cases h0
    ·injection hv with _ _ hv3;subst hv3;exact⟨h3,h4⟩
   obtain⟨b,off,rfl,hc0,hbl,hcell⟩:=Reads.at_ HR3 (by omega)
   obtain⟨j,hj⟩:=ex (i+1)
   have hjI:((i:Int)+1)=(j:Int):=by omega
   rw[hjI]at hwi
   obtain⟨AD,hAD,hsrc⟩:∃ AD:Option Addr,(if c=j then(some ⟨b,off,none⟩:Option Addr)else some ⟨b,off+j*4,none⟩)=AD∧Reads w6 AD (c-j) (l.length-j) ((l.drop j).flatMap txC):=by
    refine⟨_,rfl,fun h0=>?_⟩
    rw[if_neg (by omega)]
    refine⟨b,off+j*4,rfl,by omega,hbl,fun t u hu=>?_⟩
    rw[Nat.add_assoc]
    refine hcell (j*4+t) u ?_
    rw[← hu]
    have h6:l.flatMap txC=(l.take j).flatMap txC++(l.drop j).flatMap txC:=by rw[← List.flatMap_append,List.take_append_drop]
    have h7:((l.take j).flatMap txC).length=j*4:=by rw[flat_len txC_len,List.length_take];omega
    rw[h6,List.getElem?_append_right (by omega),h7,Nat.add_sub_cancel_left]
   have HSRC:=Hq hsrc
   have HRES:=Hq (show(l.flatMap txC).take (i*4)++(l.drop j).flatMap txC=(l.take i++l.drop (i+1)).flatMap txC∧i+(l.length-j)=(l.take i++l.drop (i+1)).length from by
    constructor
    ·have h6:l.flatMap txC=(l.take i).flatMap txC++(l.drop i).flatMap txC:=by rw[← List.flatMap_append,List.take_append_drop]
     have h7:((l.take i).flatMap txC).length=i*4:=by rw[flat_len txC_len,List.length_take];omega
     rw[List.flatMap_append,h6,← h7,List.take_left,hj]
    ·rw[List.length_append,List.length_take,List.length_drop,hj];omega)
   have hijc:(i:Int)≤(cap:Int):=by omega
   have hjc:(j:Int)≤(c:Int):=by omega
   have hjl:(j:Int)≤(l.length:Int):=by omega
   have hbz:=B3.out.size
   have hbz2:g<w6.heap.size:=(HO3.out.lt g rfl).2
   clear hsrc hcell HR3 hj HO2 H2 hc2 hc3 HNDK HKR HNO B2
   refine rgH (S:=(fun _=>True)) (fun hHeld=>?_) (by trivial)
   refine tkP 0 ?_;refine tkP 1 ?_;refine tkP 2 ?_;refine tkP 3 ?_;refine tkP 4 ?_;refine tkP 5 ?_;refine tkP 6 ?_
   refine rdP 7 fun K hK=>?_
   try rw[hAD]
   refine wantedIf (by rfl) ?_
   rw[← hw6]
   refine wp_appRw w6 (.tmp 38) (.tmp 42) 35 92 i0 (.agg #[(),(),(),false]) 4 32 Tryz.underlying35 hi0 hz0 hz1 hz2 rfl (by omega) rfl W0.heap.size _ i ((l.flatMap txC).take (i*4)) rfl HO3.out AD (l.length-j) (c-j) ((l.drop j).flatMap txC) rfl HSRC.out (by rw[flat_len txC_len,List.length_drop]) (txC_all _) (by omega) (by omega) (by omega) ?_
   intro v7 w7 ho7 hg7 hb7
   refine hKo hK (fun hHeld=>?_) (by trivial)
   clear hK K
   refine tkP 8 ?_
   refine wpAnyH_done Kr ?_ _
   clear hHeld
   rw[HRES.out.1,HRES.out.2]at ho7
   have HFI:=Hq (HOUT.out _ v7 _ w7 HS.out ho7 (B3.out.trans (hb7.mono (by omega))))
   go_wp2_with fail
   exact HFI.out
  ·have HRES:=Hq (N4.out i HNO.out hp hk7 hi)
   have hk7':(kind==7)=false:=by simpa using hk7
   clear N1 N2 N3 N4 HOUT hp
   go_enter Tryz.func65,Tryz.ntmps65
   go_upto_region 1 with fail
   rw[← hW0]
   clear hW0
   go_upto_region 2 with(at_builtin;refine listWants Kr fun K hK=>wp_appRw (W0.alloc (.cells #[] 92)) (.tmp 7) (.tmp 8) 35 92 i0 (.agg #[(),(),(),false]) 4 32 Tryz.underlying35 hi0 hz0 hz1 hz2 rfl (by omega) rfl W0.heap.size _ 0 [] rfl (ownEmpty W0 92 4) A l.length c (l.flatMap txC) rfl HRD.out (by rw[flat_len txC_len]) (txC_all l) (by omega) (by omega) (by simp) ?_;intro v1 w1 ho1 hg1 hb1;refine hK _ _ ?_)
   rw[List.nil_append,Nat.zero_add]at ho1
   have hsz0:=HSZ.out
   have HO1:=Hq ho1
   have H1:=Hq (show w1.heap[w.heap.size]? =some (.cells (rcA lsn prev txn kind page next nu ok os oo on how root ek ep es (.slice AT n1 c1) (.slice AD m1 d1)) 55 (0,0))from(hb1.block _ (by omega)).trans (blkOld H0.out (allocB W0 _)))
   have B1:=Hq (show Below w.heap.size w w1 from(joinB B0.out (allocB W0 (.cells #[] 92))).trans (hb1.mono (by omega)))
   have hc1:=blkCell H1.out
   have HP1:=HPL0.out w1 B1.out
   unfold PlaceOut at HP1
   simp only[Tx.placeI]at HP1
   clear HPL0 ho1 hg1 hb1
   go_upto_region 3 with(go_at_call 104;(with_reducible refine HP1.mono ?_);rintro e w2 ⟨rfl,hb2⟩;have hc2:=blkCell (blkOld H1.out hb2))
   have H2:=Hq (blkOld H1.out hb2)
   have B2:=Hq (joinB B1.out hb2)
   have HO2:=Hq (ownBelow HO1.out hb2)
   have HR2:=Hq (HR.out.below B2.out)
   clear hb2 hc1 HO1 H1 B1 HP1
   obtain⟨g,cap,hv1,hgB0⟩:=ownSome HO2.out (by omega)
   subst hv1
   go_upto_region 10 with(go_at_call 105;(with_reducible refine(HNDK.out _).mono ?_);rintro e w3 ⟨rfl,hb3⟩;have hc3:=blkCell (blkOld H2.out hb3))
   have HX:=Hq (blkOld H2.out hb3)
   have HB:=Hq (joinB B2.out hb3)
   have hgB:w.heap.size+1≤g:=by omega
   have ho2':=ownMono (ownBelow HO2.out hb3) (show w.heap.size+1≤W0.heap.size from by omega)
   obtain⟨L,hL⟩:∃ L:List Rc.TxnAt,L=l:=⟨_,rfl⟩
   obtain⟨N,hN⟩:=ex l.length
   obtain⟨k,hk⟩:=ex i
   rw[← hN]at ho2'
   rw[← hN]
   rw[← hL]at ho2'
   rw[← hk]
   have HO:=Hq ho2'
   have HLN:=Hq (show L.length=N from by rw[hL,hN])
   have hkL:k<L.length:=by rw[hL,hk];exact hi
   have HRES2:=Hq (show R=L.set k (Tx.tuneT ⟨lsn,prev,txn,kind,page,next,nu,⟨ok,os,oo,on⟩,how,root,⟨ek,ep,es⟩,ts,ds⟩ L[k])from by
    subst hL hk;exact HRES.out)
   clear HRES
   have HRES:=HRES2
   clear HRES2 hL hN hk ho2' hb3 hc2 hc3 H2 B2 HO2 HR2 HNDK hgB0 B0 H0 hi hin0
   obtain⟨W,hWW⟩:=ex w3
   rw[← hWW]at HX HB HO
   rw[← hWW]
   clear hWW
   obtain⟨t,ht⟩:=ex (L[k])
   obtain⟨tn,tl,tx,td⟩:=t
   obtain⟨s1,s2,s3⟩:=rowSet HO.out HLN.out k hkL 1 (by omega) (.int .i64 lsn) ⟨tn,lsn,tx,td⟩ (by rw[← ht];rfl)
   rw[← ht]at s1
   simp only[txC]at s1
   have HT:=Hq ht
   have HO2:=Hq s3
   have hcw:=blkCell HX.out
   have hgne:w.heap.size≠g:=by omega
   have hkN:=HLN.out
   rw[hkN]at hkL
   have hkI:(k:Int)<(N:Int):=by omega
   have hk0:(0:Int)≤(k:Int):=by omega
   clear ht s3 hkN
   go_upto_region 11 with fail
   have HX2:=Hq (show(W.setCell ⟨g,k*4+1,none⟩ (.int .i64 lsn)).heap[w.heap.size]? =some (.cells (rcA lsn prev txn kind page next nu ok os oo on how root ek ep es (.slice AT n1 c1) (.slice AD m1 d1)) 55 (0,0))from(Below.heap_setCell _ _ _ _ hgne).trans HX.out)
   have HB2:=Hq (HB.out.trans ((Below.refl w.heap.size W).setCell (p:=⟨g,k*4+1,none⟩) (by show w.heap.size≤g;omega) (.int .i64 lsn)))
   obtain⟨W2,hW2⟩:=ex (W.setCell ⟨g,k*4+1,none⟩ (.int .i64 lsn))
   rw[← hW2]at HX2 HB2 HO2
   rw[← hW2]
   clear hW2 HX HB HO hcw s1 s2
   have hcw2:=blkCell HX2.out
   have HLN2:=Hq (show(L.set k ⟨tn,lsn,tx,td⟩).length=N from by rw[List.length_set];exact HLN.out)
   have HK2:=Hq (show k<(L.set k ⟨tn,lsn,tx,td⟩).length from by have:=HLN2.out;omega)
   have hsk:∀ y,(L.set k ⟨tn,lsn,tx,td⟩).set k y=L.set k y:=fun y=>List.set_set ..
   have HGE:=Hq (show(L.set k ⟨tn,lsn,tx,td⟩)[k]'HK2.out=⟨tn,lsn,tx,td⟩from by simp)
   have HFIN:=Hq (fun y w' (hy:y=Tx.tuneT ⟨lsn,prev,txn,kind,page,next,nu,⟨ok,os,oo,on⟩,how,root,⟨ek,ep,es⟩,ts,ds⟩ ⟨tn,tl,tx,td⟩) (ho:w'.ownsRow (w.heap.size+1) 92 4 (.slice (some ⟨g,0,none⟩) N cap) N ((L.set k y).flatMap txC)) (hb:Below w.heap.size w w')=>HOWN.out (L.set k y) g N cap (w.heap.size+1) w' (by rw[hy,HT.out];exact HRES.out) ho (by rw[List.length_set];exact HLN.out) (by omega) hb)
   clear HRES HOWN HT
   have hkk:kind=1∨kind=2∨kind=3∨kind=4∨kind=5∨kind=6:=by have:=HKR.out;omega
   clear HKR hk7 HNO
   rcases hkk with rfl|rfl|rfl|rfl|rfl|rfl
   ·obtain⟨u1,u2,u3⟩:=rowSet HO2.out HLN2.out k HK2.out 2 (by omega) (.int .i64 lsn) ⟨tn,lsn,lsn,td⟩ (by rw[HGE.out];rfl)
    rw[HGE.out]at u1
    simp only[txC]at u1
    rw[hsk]at u3
    have HO3:=Hq (HFIN.out ⟨tn,lsn,lsn,td⟩ _ rfl u3 (HB2.out.trans ((Below.refl w.heap.size W2).setCell (p:=⟨g,k*4+2,none⟩) (by show w.heap.size≤g;omega) (.int .i64 lsn))))
    clear u3 hsk
    go_wp2_with fail
    exact HO3.out
   ·obtain⟨u1,u2,u3⟩:=rowSet HO2.out HLN2.out k HK2.out 2 (by omega) (.int .i64 lsn) ⟨tn,lsn,lsn,td⟩ (by rw[HGE.out];rfl)
    rw[HGE.out]at u1
    simp only[txC]at u1
    rw[hsk]at u3
    have HO3:=Hq (HFIN.out ⟨tn,lsn,lsn,td⟩ _ rfl u3 (HB2.out.trans ((Below.refl w.heap.size W2).setCell (p:=⟨g,k*4+2,none⟩) (by show w.heap.size≤g;omega) (.int .i64 lsn))))
    clear u3 hsk
    go_wp2_with fail
    exact HO3.out
   ·obtain⟨u1,u2,u3⟩:=rowSet HO2.out HLN2.out k HK2.out 2 (by omega) (.int .i64 next) ⟨tn,lsn,next,td⟩ (by rw[HGE.out];rfl)
    rw[HGE.out]at u1
    simp only[txC]at u1
    rw[hsk]at u3
    have HO3:=Hq (HFIN.out ⟨tn,lsn,next,td⟩ _ rfl u3 (HB2.out.trans ((Below.refl w.heap.size W2).setCell (p:=⟨g,k*4+2,none⟩) (by show w.heap.size≤g;omega) (.int .i64 next))))
    clear u3 hsk
    go_wp2_with fail
    exact HO3.out
   ·obtain⟨u1,u2,u3⟩:=rowSet HO2.out HLN2.out k HK2.out 2 (by omega) (.int .i64 next) ⟨tn,lsn,next,td⟩ (by rw[HGE.out];rfl)
    rw[HGE.out]at u1
    simp only[txC]at u1
    rw[hsk]at u3
    have HO3:=Hq (HFIN.out ⟨tn,lsn,next,td⟩ _ rfl u3 (HB2.out.trans ((Below.refl w.heap.size W2).setCell (p:=⟨g,k*4+2,none⟩) (by show w.heap.size≤g;omega) (.int .i64 next))))
    clear u3 hsk
    go_wp2_with fail
    exact HO3.out
   ·obtain⟨u1,u2,u3⟩:=rowSet HO2.out HLN2.out k HK2.out 3 (by omega) (.bool true) ⟨tn,lsn,tx,true⟩ (by rw[HGE.out];rfl)
    rw[HGE.out]at u1
    simp only[txC]at u1
    rw[hsk]at u3
    have HO3:=Hq (HFIN.out ⟨tn,lsn,tx,true⟩ _ rfl u3 (HB2.out.trans ((Below.refl w.heap.size W2).setCell (p:=⟨g,k*4+3,none⟩) (by show w.heap.size≤g;omega) (.bool true))))
    clear u3 hsk
    go_wp2_with fail
    exact HO3.out
   ·have HO3:=Hq (HFIN.out ⟨tn,lsn,tx,td⟩ _ rfl HO2.out HB2.out)
    clear hsk
    go_wp2_with fail
    exact HO3.out
theorem rfind_any (s:Tx.St)(p:SP)(n:Int)(hts:s.txns.length≤800000)(w:World)(h:StoreR w s p):
 Calls Tryz.prog 103 #[storeV s p,n] w fun e w'=>e= .returned (.tuple #[txV (Tx.findS s n).1,.bool (Tx.findS s n).2])∧Below w.heap.size w w':=by
 have hP:=fun W (hb:Below w.heap.size w W)=>rplace_any s.txns n (by omega) p.T p.tc W (h.tx.below hb)
 have HTX:=Hq h.tx
 clear h
 obtain⟨zl,zp,zf,⟨L,lf,dn⟩,⟨fr,ln,en,sf,tl⟩,hd,ts,nx⟩:=s
 obtain⟨A,c,FA,fn,fc,TA,tc⟩:=p
 simp only at hP HTX hts
 dsimp only[storeV]
 cases hp:Tx.placeT ts n with
 |none=>
  rw[Tx.findS_none (s:=⟨zl,zp,zf,⟨L,lf,dn⟩,⟨fr,ln,en,sf,tl⟩,hd,ts,nx⟩) hp]
  rw[hp]at hP
  unfold PlaceOut at hP
  simp only[Tx.placeI]at hP
  have HP:=Hq hP
  clear hP
  go_enter Tryz.func103,Tryz.ntmps103
  go_upto_region 1 with fail
  have H0:=nW2 w #[zl,zp,zf,.slice A L.length c,lf,dn,fr,ln,en,sf,tl,.slice FA fn fc,hd,.slice TA ts.length tc,nx] 37 #[(),(),(),false] 92
  obtain⟨W0,hW0⟩:=exW H0
  rw[← hW0]at H0 ⊢
  clear hW0
  have hc0:=blkCell H0.out.get0
  go_wp2_with (first
   |(go_at_call 104;(with_reducible refine(HP.out _ H0.out.below).mono ?_);rintro e w1 ⟨rfl,hb1⟩;have H1:=Hq (H0.out.step hb1))
   |(with_reducible refine lS #[(),(),(),false] H1.out.get1 ?_))
  refine bodyPost_ret (v:=.tuple #[.agg #[(),(),(),false],false]) (results_cell2 rfl _ _ rfl (load_whole (setRow_heap _ _ _ _ _ _ H1.out.get1) Tryz.underlying92 Kr Kr) rfl) rfl ?_
  exact⟨rfl,(H1.out.row 1 _ _ rfl).below⟩
 |some i=>
  obtain⟨hi,-⟩:=Tx.placeT_some hp
  rw[Tx.findS_some (s:=⟨zl,zp,zf,⟨L,lf,dn⟩,⟨fr,ln,en,sf,tl⟩,hd,ts,nx⟩) hp hi]
  simp only
  rw[hp]at hP
  unfold PlaceOut at hP
  simp only[Tx.placeI]at hP
  have HP:=Hq hP
  clear hP
  have hi0:(0:Int)≤(i:Int):=by omega
  have hin0:¬ (i:Int)<0:=by omega
  have hiI:(i:Int)<(ts.length:Int):=by omega
  obtain⟨b,off,rfl,hcc,hbl,hcell⟩:=read_at txC_len HTX.out hi
  generalize ts[i]=x at hcell ⊢
  obtain⟨xa,xb,xc,xd⟩:=x
  have HCELL:=Hq hcell
  clear hcell hp hi
  go_enter Tryz.func103,Tryz.ntmps103
  go_upto_region 1 with fail
  have H0:=nW2 w #[zl,zp,zf,.slice A L.length c,lf,dn,fr,ln,en,sf,tl,.slice FA fn fc,hd,.slice (some ⟨b,off,none⟩) ts.length tc,nx] 37 #[(),(),(),false] 92
  obtain⟨W0,hW0⟩:=exW H0
  rw[← hW0]at H0 ⊢
  clear hW0
  have hc0:=blkCell H0.out.get0
  go_wp2_with (first
   |(go_at_call 104;(with_reducible refine(HP.out _ H0.out.below).mono ?_);rintro e w1 ⟨rfl,hb1⟩;have H1:=Hq (H0.out.step hb1);have hc1:=blkCell H1.out.get0;have HR1:w1.rangeAt b (off+i*4) [.int .i64 xa,.int .i64 xb,.int .i64 xc,.bool xd]:=fun j v hj=>(by rw[H1.out.below.cell (p:=⟨b,off+i*4+j,none⟩) hbl];exact HCELL.out j v hj);have HRG:=Hq HR1;clear HR1)
   |(with_reducible refine wpList_load_mid rfl 92 (.tmp 17) rfl b (off+i*4) rfl [.int .i64 xa,.int .i64 xb,.int .i64 xc,.bool xd] _ HRG.out Tryz.underlying92 Kr Kr ?_)
   |(with_reducible refine lS #[xa,xb,xc,xd] H1.out.get1 ?_))
  refine bodyPost_ret (v:=.tuple #[.agg #[xa,xb,xc,xd],true]) (results_cell2 rfl _ _ rfl (load_whole (setRow_heap _ _ _ _ _ _ H1.out.get1) Tryz.underlying92 Kr Kr) rfl) rfl ?_
  exact⟨rfl,(H1.out.row 1 _ _ rfl).below⟩
theorem rput42_any (s:Tx.St)(p:SP)(hb:Tx.LogB s)(hts:s.txns.length≤800000)(lsn prev txn kind next:Int)(w:World)(h:StoreR w s p):
 Calls Tryz.prog 52 #[storeV s p,.agg (rcA lsn prev txn kind 0 next 0 0 0 ⟨#[]⟩ ⟨#[]⟩ 0 0 ⟨#[]⟩ 0 0 (.slice none 0 0) (.slice none 0 0))] w (StOut (Tx.putS s (rbR lsn prev txn kind next)) p w):=by
 have HA:=Hq (fun W=>rappend_any s.log hb.e0 (by have:=hb.e1;omega) (by have:=hb.n0;omega) (by have:=hb.n1;omega) (by have:=hb.t0;have:=hb.e1;omega) (rbR lsn prev txn kind next) none none 0 0 W (recR_nil _ _ rfl rfl))
 have HS:=Hq h
 have hput:∃ x,x=Tx.putS s (rbR lsn prev txn kind next)∧((Lg.appendD s.log (rbR lsn prev txn kind next)).2.2=0→x=({s with log:=(Lg.appendD s.log (rbR lsn prev txn kind next)).1,txns:=Tx.noteT s.txns (rbR (Lg.appendD s.log (rbR lsn prev txn kind next)).2.1 prev txn kind next)},0))∧(¬ (Lg.appendD s.log (rbR lsn prev txn kind next)).2.2=0→x=(s,(Lg.appendD s.log (rbR lsn prev txn kind next)).2.2)):=⟨_,rfl,(fun h0=>by unfold Tx.putS;rw[if_pos h0]),(fun h0=>by unfold Tx.putS;rw[if_neg h0])⟩
 obtain⟨x,hx,hx0,hx1⟩:=hput
 rw[← hx]
 clear hx
 generalize Lg.appendD s.log (rbR lsn prev txn kind next)=o at HA hx0 hx1
 obtain⟨⟨gf,gn,ge,gs,gt⟩,n,e⟩:=o
 simp only at hx0 hx1
 have HNT:=Hq (fun W (hb:Below w.heap.size w W)=>rnote_any s.txns (by omega) p.T p.tc (rbR n prev txn kind next) none none 0 0 0 0 W (h.tx.below hb))
 clear h hb
 by_cases he:e=0
 ·subst he
  have HX:=Hq (hx0 rfl)
  clear hx0 hx1
  have HF:=Hq (fun(A':Option Addr) (c':Nat) w' (hs:StoreR w' {s with log:=⟨gf,gn,ge,gs,gt⟩,txns:=Tx.noteT s.txns (rbR n prev txn kind next)} ⟨p.A,p.c,p.F,p.fn,p.fc,A',c'⟩) (hb:Below w.heap.size w w')=>show StOut x p w (.returned (.tuple #[storeV {s with log:=⟨gf,gn,ge,gs,gt⟩,txns:=Tx.noteT s.txns (rbR n prev txn kind next)} ⟨p.A,p.c,p.F,p.fn,p.fc,A',c'⟩,()])) w' from by rw[HX.out];exact⟨_,rfl,hs,⟨rfl,rfl,rfl⟩,hb⟩)
  generalize StOut x p w=Q at HF ⊢
  have hnl:=Tx.noteT_len s.txns (rbR n prev txn kind next)
  generalize Tx.noteT s.txns (rbR n prev txn kind next)=ts2 at HNT HF hnl
  obtain⟨zl,zp,zf,⟨L,lf,dn⟩,⟨fr,ln,en,sf,tl⟩,hd,ts,nx⟩:=s
  obtain⟨A,c,FA,fn,fc,TA,tc⟩:=p
  dsimp only[storeV,recV,recA,logV,Rc.noOp,Rc.noKey,List.length_nil]at HA HNT HF ⊢
  clear HX
  go_enter Tryz.func52,Tryz.ntmps52
  go_upto_region 1 with fail
  have H0:=nW3 w #[zl,zp,zf,.slice A L.length c,lf,dn,fr,ln,en,sf,tl,.slice FA fn fc,hd,.slice TA ts.length tc,nx] 37 (rcA lsn prev txn kind 0 next 0 0 0 ⟨#[]⟩ ⟨#[]⟩ 0 0 ⟨#[]⟩ 0 0 (.slice none 0 0) (.slice none 0 0)) 55 #[(),(),(),"s",(),false,(),(),(),(),"","s",(),"s",()] 37
  obtain⟨W0,hW0⟩:=exW H0
  rw[← hW0]at H0 ⊢
  clear hW0
  go_upto_region 2 with(first
   |(with_reducible refine lP #[fr,ln,en,sf,tl] H0.out.get0 Tryz.underlying31 ?_)
   |(with_reducible refine lL H0.out.get1 Tryz.underlying55 ?_)
   |(go_at_call 32;(with_reducible refine(HA.out _).mono ?_);rintro e w1 ⟨he1,hb1⟩;dsimp only[logV]at he1;subst he1)
   |(with_reducible refine sN #[gf,gn,ge,gs,gt] ?_))
  have H1:=Hq (H0.out.step (pastAlloc (o:=.cells #[gf,gn,ge,gs,gt] 31) hb1))
  have HG:=Hq (heap_alloc_new w1 (.cells #[gf,gn,ge,gs,gt] 31))
  have hgb:w.heap.size+3≤w1.heap.size:=Nat.le_trans (H0.out.lt (i:=2) (by simp)) hb1.size
  obtain⟨gb,hge⟩:=ex w1.heap.size
  obtain⟨W1,hW1⟩:=ex (w1.alloc (.cells #[gf,gn,ge,gs,gt] 31))
  rw[← hge]at HG hgb
  rw[← hW1]at H1 HG
  rw[← hW1,← hge]
  clear hge hW1 hb1 H0 HA
  have hc1:=blkCell H1.out.get1
  have hz1:=blkFrozen H1.out.get1
  go_upto_region 5 with fail
  have H2:=Hq (H1.out.set 1 0 (.int .i64 n) _ rfl)
  have HG2:=Hq (show(W1.setCell ⟨w.heap.size+1,0,none⟩ (.int .i64 n)).heap[gb]? =some (.cells #[gf,gn,ge,gs,gt] 31 (0,0))from(Below.heap_setCell _ _ _ _ (by show gb≠w.heap.size+1;omega)).trans HG.out)
  obtain⟨W2,hW2⟩:=ex (W1.setCell ⟨w.heap.size+1,0,none⟩ (.int .i64 n))
  rw[← hW2]at H2 HG2
  rw[← hW2]
  clear hW2 hc1 hz1 H1 HG
  go_upto_region 6 with(first
   |(with_reducible refine lL HG2.out Tryz.underlying31 ?_)
   |(with_reducible refine lU #[gf,gn,ge,gs,gt] #[zl,zp,zf,.slice A L.length c,lf,dn,gf,gn,ge,gs,gt,.slice FA fn fc,hd,.slice TA ts.length tc,nx] H2.out.get0 ?_))
  have H3:=Hq (H2.out.row 0 #[zl,zp,zf,.slice A L.length c,lf,dn,gf,gn,ge,gs,gt,.slice FA fn fc,hd,.slice TA ts.length tc,nx] _ rfl)
  simp only[Nat.add_zero]at H3
  obtain⟨W3,hW3⟩:=ex (W2.setRow w.heap.size #[zl,zp,zf,.slice A L.length c,lf,dn,gf,gn,ge,gs,gt,.slice FA fn fc,hd,.slice TA ts.length tc,nx])
  rw[← hW3]at H3
  rw[← hW3]
  clear hW3 H2 HG2
  have hc3:=blkCell H3.out.get0
  go_upto_region 7 with(first
   |(with_reducible refine lL H3.out.get1 Tryz.underlying55 ?_)
   |(go_at_call 65;(with_reducible refine(HNT.out _ H3.out.below).mono ?_);rintro e w4 ⟨A',c',rfl,hr4,ht4,hb4⟩;have H4:=Hq (H3.out.step hb4);have hc4:=blkCell H4.out.get0;have hz4:=blkFrozen H4.out.get0;clear hc3))
  have HS4:=Hq (show StoreR w4 ⟨zl,zp,zf,⟨L,lf,dn⟩,⟨gf,gn,ge,gs,gt⟩,hd,ts2,nx⟩ ⟨A,c,FA,fn,fc,A',c'⟩from⟨HS.out.dk.below H4.out.below,HS.out.dt.below H4.out.below,hr4,ht4⟩)
  have HS5:=Hq (HS4.out.set H4.out.get0 (by decide) (by decide) 13 (.slice A' ts2.length c'))
  have H5:=Hq (H4.out.set 0 13 (.slice A' ts2.length c') _ rfl)
  simp only[Nat.add_zero]at H5
  obtain⟨W5,hW5⟩:=ex (w4.setCell ⟨w.heap.size,13,none⟩ (.slice A' ts2.length c'))
  rw[← hW5]at H5 HS5
  rw[← hW5]
  clear hW5 hc4 hz4 H4 HS4 hr4 ht4 hb4 H3 HS HNT
  go_wp2_with (first
   |(with_reducible refine lL H5.out.get0 Tryz.underlying37 ?_)
   |(with_reducible refine lS #[zl,zp,zf,.slice A L.length c,lf,dn,gf,gn,ge,gs,gt,.slice FA fn fc,hd,.slice A' ts2.length c',nx] H5.out.get2 ?_))
  refine bodyPost_ret (v:=.tuple #[.agg #[zl,zp,zf,.slice A L.length c,lf,dn,gf,gn,ge,gs,gt,.slice FA fn fc,hd,.slice A' ts2.length c',nx],()]) (results_cell2 rfl _ _ rfl (load_whole (setRow_heap _ _ _ _ _ _ H5.out.get2) Tryz.underlying37 Kr Kr) rfl) rfl ?_
  exact HF.out A' c' _ (HS5.out.other H5.out.get2 (by decide) (by decide) _) ((H5.out.row 2 _ _ rfl).below)
 ·have HX:=Hq (hx1 he)
  have he1:(e==0)=false:=by simpa using he
  have he2:(e != 0)=true:=by simpa using he
  clear hx0 hx1 he HNT
  have HF:=Hq (fun w' (hb:Below w.heap.size w w')=>show StOut x p w (.returned (.tuple #[storeV s p,e])) w' from by rw[HX.out];exact⟨_,rfl,HS.out.below hb,⟨rfl,rfl,rfl⟩,hb⟩)
  generalize StOut x p w=Q at HF ⊢
  clear HX HS hts
  obtain⟨zl,zp,zf,⟨L,lf,dn⟩,⟨fr,ln,en,sf,tl⟩,hd,ts,nx⟩:=s
  obtain⟨A,c,FA,fn,fc,TA,tc⟩:=p
  dsimp only[storeV,recV,recA,logV,Rc.noOp,Rc.noKey,List.length_nil]at HA HF ⊢
  go_enter Tryz.func52,Tryz.ntmps52
  go_upto_region 1 with fail
  have H0:=nW3 w #[zl,zp,zf,.slice A L.length c,lf,dn,fr,ln,en,sf,tl,.slice FA fn fc,hd,.slice TA ts.length tc,nx] 37 (rcA lsn prev txn kind 0 next 0 0 0 ⟨#[]⟩ ⟨#[]⟩ 0 0 ⟨#[]⟩ 0 0 (.slice none 0 0) (.slice none 0 0)) 55 #[(),(),(),"s",(),false,(),(),(),(),"","s",(),"s",()] 37
  obtain⟨W0,hW0⟩:=exW H0
  rw[← hW0]at H0 ⊢
  clear hW0
  go_upto_region 2 with(first
   |(with_reducible refine lP #[fr,ln,en,sf,tl] H0.out.get0 Tryz.underlying31 ?_)
   |(with_reducible refine lL H0.out.get1 Tryz.underlying55 ?_)
   |(go_at_call 32;(with_reducible refine(HA.out _).mono ?_);rintro e1 w1 ⟨he1,hb1⟩;dsimp only[logV]at he1;subst he1)
   |(with_reducible refine sN #[gf,gn,ge,gs,gt] ?_))
  have H1:=Hq (H0.out.step (pastAlloc (o:=.cells #[gf,gn,ge,gs,gt] 31) hb1))
  obtain⟨W1,hW1⟩:=ex (w1.alloc (.cells #[gf,gn,ge,gs,gt] 31))
  rw[← hW1]at H1
  rw[← hW1]
  clear hW1 hb1 H0 HA
  go_wp2_with (first
   |(with_reducible refine lL H1.out.get0 Tryz.underlying37 ?_)
   |(with_reducible refine lS #[zl,zp,zf,.slice A L.length c,lf,dn,fr,ln,en,sf,tl,.slice FA fn fc,hd,.slice TA ts.length tc,nx] H1.out.get2 ?_))
  refine bodyPost_ret (v:=.tuple #[.agg #[zl,zp,zf,.slice A L.length c,lf,dn,fr,ln,en,sf,tl,.slice FA fn fc,hd,.slice TA ts.length tc,nx],e]) (results_cell2 rfl _ _ rfl (load_whole (setRow_heap _ _ _ _ _ _ H1.out.get2) Tryz.underlying37 Kr Kr) rfl) rfl ?_
  exact HF.out _ ((H1.out.row 2 _ _ rfl).below)
theorem rown_any (s:Tx.St)(p:SP)(hb:Tx.LogB s)(hts:s.txns.length≤800000)(n:Int)(opn:Bool)(lsn prev kind next:Int)(w:World)(h:StoreR w s p):
 Calls Tryz.prog 63 #[storeV s p,.agg (rcA lsn prev n kind 0 next 0 0 0 ⟨#[]⟩ ⟨#[]⟩ 0 0 ⟨#[]⟩ 0 0 (.slice none 0 0) (.slice none 0 0)),opn] w (StOut (Tx.ownS s n opn (rbR lsn prev n kind next)) p w):=by
 have HFI:=Hq (fun W (hb:Below w.heap.size w W)=>rfind_any s p n hts W (h.below hb))
 have HS:=Hq h
 have hN:= @Tx.ownS_none s n opn (rbR lsn prev n kind next)
 have hD:= @Tx.ownS_done s n opn (rbR lsn prev n kind next)
 have hG:= @Tx.ownS_go s n opn (rbR lsn prev n kind next)
 generalize Tx.findS s n=x at HFI hN hD hG
 obtain⟨⟨xa,xb,xc,xd⟩,ok⟩:=x
 simp only at HFI hN hD hG
 have HNO:=Hq (fun W (hw:Below w.heap.size w W)=>rput42_any s p hb hts lsn xb n kind next W (h.below hw))
 have HK:=Hq (fun k w' (hx:Tx.ownS s n opn (rbR lsn prev n kind next)=(s,k)) (hb:Below w.heap.size w w')=>show StOut (Tx.ownS s n opn (rbR lsn prev n kind next)) p w (.returned (.tuple #[storeV s p,k])) w' from by rw[hx];exact⟨_,rfl,h.below hb,⟨rfl,rfl,rfl⟩,hb⟩)
 have HM:=Hq (fun y (p':SP) w' (hx:Tx.ownS s n opn (rbR lsn prev n kind next)=y) (hs:StoreR w' y.1 p') (hf:p'.F=p.F∧p'.fn=p.fn∧p'.fc=p.fc) (hb:Below w.heap.size w w')=>show StOut (Tx.ownS s n opn (rbR lsn prev n kind next)) p w (.returned (.tuple #[storeV y.1 p',y.2])) w' from by rw[hx];exact⟨_,rfl,hs,hf,hb⟩)
 generalize Tx.ownS s n opn (rbR lsn prev n kind next)=R at*
 generalize StOut R p w=Q at*
 clear h hb hts
 cases ok with
 |false=>
  have HX:=Hq (hN rfl)
  clear hN hD hG HNO HM HS
  obtain⟨zl,zp,zf,⟨L,lf,dn⟩,⟨fr,ln,en,sf,tl⟩,hd,ts,nx⟩:=s
  obtain⟨A,c,FA,fn,fc,TA,tc⟩:=p
  dsimp only[storeV]at HFI HK ⊢
  go_enter Tryz.func63,Tryz.ntmps63
  go_upto_region 1 with fail
  have H0:=nW3 w #[zl,zp,zf,.slice A L.length c,lf,dn,fr,ln,en,sf,tl,.slice FA fn fc,hd,.slice TA ts.length tc,nx] 37 (rcA lsn prev n kind 0 next 0 0 0 ⟨#[]⟩ ⟨#[]⟩ 0 0 ⟨#[]⟩ 0 0 (.slice none 0 0) (.slice none 0 0)) 55 #[(),(),(),"s",(),false,(),(),(),(),"","s",(),"s",()] 37
  obtain⟨W0,hW0⟩:=exW H0
  rw[← hW0]at H0 ⊢
  clear hW0
  have hcr:=blkCell H0.out.get1
  go_upto_region 2 with(first
   |(with_reducible refine lL H0.out.get0 Tryz.underlying37 ?_)
   |(go_at_call 103;(with_reducible refine(HFI.out _ H0.out.below).mono ?_);rintro e w1 ⟨rfl,hb1⟩)
   |(with_reducible refine sN #[xa,xb,xc,xd] ?_))
  have H1:=Hq (H0.out.step (pastAlloc (o:=.cells #[xa,xb,xc,xd] 92) hb1))
  have HG:=Hq (heap_alloc_new w1 (.cells #[xa,xb,xc,xd] 92))
  have hgb:w.heap.size+3≤w1.heap.size:=Nat.le_trans (H0.out.lt (i:=2) (by simp)) hb1.size
  obtain⟨gb,hge⟩:=ex w1.heap.size
  obtain⟨W1,hW1⟩:=ex (w1.alloc (.cells #[xa,xb,xc,xd] 92))
  rw[← hge]at HG hgb
  rw[← hW1]at H1 HG
  rw[← hW1,← hge]
  clear hge hW1 hb1 H0 HFI hcr
  have hcg:=blkCell HG.out
  go_wp2_with (first
   |(with_reducible refine lL H1.out.get0 Tryz.underlying37 ?_)
   |(with_reducible refine lS #[zl,zp,zf,.slice A L.length c,lf,dn,fr,ln,en,sf,tl,.slice FA fn fc,hd,.slice TA ts.length tc,nx] H1.out.get2 ?_))
  refine bodyPost_ret (v:=.tuple #[.agg #[zl,zp,zf,.slice A L.length c,lf,dn,fr,ln,en,sf,tl,.slice FA fn fc,hd,.slice TA ts.length tc,nx],.int .i64 21]) (results_cell2 rfl _ _ rfl (load_whole (setRow_heap _ _ _ _ _ _ H1.out.get2) Tryz.underlying37 Kr Kr) rfl) rfl ?_
  exact HK.out 21 _ HX.out ((H1.out.row 2 _ _ rfl).below)
 |true=>
  by_cases hod:opn=true∧xd=true
  ·have HX:=Hq (hD rfl hod.1 hod.2)
   obtain⟨rfl,rfl⟩:=hod
   clear hN hD hG HNO HM HS
   obtain⟨zl,zp,zf,⟨L,lf,dn⟩,⟨fr,ln,en,sf,tl⟩,hd,ts,nx⟩:=s
   obtain⟨A,c,FA,fn,fc,TA,tc⟩:=p
   dsimp only[storeV]at HFI HK ⊢
   go_enter Tryz.func63,Tryz.ntmps63
   go_upto_region 1 with fail
   have H0:=nW3 w #[zl,zp,zf,.slice A L.length c,lf,dn,fr,ln,en,sf,tl,.slice FA fn fc,hd,.slice TA ts.length tc,nx] 37 (rcA lsn prev n kind 0 next 0 0 0 ⟨#[]⟩ ⟨#[]⟩ 0 0 ⟨#[]⟩ 0 0 (.slice none 0 0) (.slice none 0 0)) 55 #[(),(),(),"s",(),false,(),(),(),(),"","s",(),"s",()] 37
   obtain⟨W0,hW0⟩:=exW H0
   rw[← hW0]at H0 ⊢
   clear hW0
   have hcr:=blkCell H0.out.get1
   go_upto_region 2 with(first
    |(with_reducible refine lL H0.out.get0 Tryz.underlying37 ?_)
    |(go_at_call 103;(with_reducible refine(HFI.out _ H0.out.below).mono ?_);rintro e w1 ⟨rfl,hb1⟩)
    |(with_reducible refine sN #[xa,xb,xc,true] ?_))
   have H1:=Hq (H0.out.step (pastAlloc (o:=.cells #[xa,xb,xc,true] 92) hb1))
   have HG:=Hq (heap_alloc_new w1 (.cells #[xa,xb,xc,true] 92))
   have hgb:w.heap.size+3≤w1.heap.size:=Nat.le_trans (H0.out.lt (i:=2) (by simp)) hb1.size
   obtain⟨gb,hge⟩:=ex w1.heap.size
   obtain⟨W1,hW1⟩:=ex (w1.alloc (.cells #[xa,xb,xc,true] 92))
   rw[← hge]at HG hgb
   rw[← hW1]at H1 HG
   rw[← hW1,← hge]
   clear hge hW1 hb1 H0 HFI hcr
   have hcg:=blkCell HG.out
   go_wp2_with (first
    |(with_reducible refine lL H1.out.get0 Tryz.underlying37 ?_)
    |(with_reducible refine lS #[zl,zp,zf,.slice A L.length c,lf,dn,fr,ln,en,sf,tl,.slice FA fn fc,hd,.slice TA ts.length tc,nx] H1.out.get2 ?_))
   refine bodyPost_ret (v:=.tuple #[.agg #[zl,zp,zf,.slice A L.length c,lf,dn,fr,ln,en,sf,tl,.slice FA fn fc,hd,.slice TA ts.length tc,nx],.int .i64 17]) (results_cell2 rfl _ _ rfl (load_whole (setRow_heap _ _ _ _ _ _ H1.out.get2) Tryz.underlying37 Kr Kr) rfl) rfl ?_
   exact HK.out 17 _ HX.out ((H1.out.row 2 _ _ rfl).below)
  ·have hx:=hG rfl hod
   clear hN hD hG HK
   have hy:({rbR lsn prev n kind next with txn:=n,prev:=xb}:Rc.Rec)=rbR lsn xb n kind next:=rfl
   rw[hy]at hx
   generalize Tx.putS s (rbR lsn xb n kind next)=y at HNO hx
   subst hx
   have HMF:=Hq (fun(p':SP) w' hs hf hb=>HM.out R p' w' rfl hs hf hb)
   clear hy HM
   obtain⟨⟨zl2,zp2,zf2,⟨L2,lf2,dn2⟩,⟨fr2,ln2,en2,sf2,tl2⟩,hd2,ts2,nx2⟩,e2⟩:=R
   obtain⟨zl,zp,zf,⟨L,lf,dn⟩,⟨fr,ln,en,sf,tl⟩,hd,ts,nx⟩:=s
   obtain⟨A,c,FA,fn,fc,TA,tc⟩:=p
   dsimp only[storeV]at HFI HNO HMF ⊢
   cases opn with
   |false=>
    go_enter Tryz.func63,Tryz.ntmps63
    go_upto_region 1 with fail
    have H0:=nW3 w #[zl,zp,zf,.slice A L.length c,lf,dn,fr,ln,en,sf,tl,.slice FA fn fc,hd,.slice TA ts.length tc,nx] 37 (rcA lsn prev n kind 0 next 0 0 0 ⟨#[]⟩ ⟨#[]⟩ 0 0 ⟨#[]⟩ 0 0 (.slice none 0 0) (.slice none 0 0)) 55 #[(),(),(),"s",(),false,(),(),(),(),"","s",(),"s",()] 37
    obtain⟨W0,hW0⟩:=exW H0
    rw[← hW0]at H0 ⊢
    clear hW0
    have hcr:=blkCell H0.out.get1
    go_upto_region 2 with(first
     |(with_reducible refine lL H0.out.get0 Tryz.underlying37 ?_)
     |(go_at_call 103;(with_reducible refine(HFI.out _ H0.out.below).mono ?_);rintro e w1 ⟨rfl,hb1⟩)
     |(with_reducible refine sN #[xa,xb,xc,xd] ?_))
    have H1:=Hq (H0.out.step (pastAlloc (o:=.cells #[xa,xb,xc,xd] 92) hb1))
    have HG:=Hq (heap_alloc_new w1 (.cells #[xa,xb,xc,xd] 92))
    have hgb:w.heap.size+3≤w1.heap.size:=Nat.le_trans (H0.out.lt (i:=2) (by simp)) hb1.size
    obtain⟨gb,hge⟩:=ex w1.heap.size
    obtain⟨W1,hW1⟩:=ex (w1.alloc (.cells #[xa,xb,xc,xd] 92))
    rw[← hge]at HG hgb
    rw[← hW1]at H1 HG
    rw[← hW1,← hge]
    clear hge hW1 hb1 H0 HFI hcr
    have hcg:=blkCell HG.out
    have hcx:=blkCell H1.out.get1
    have hzx:=blkFrozen H1.out.get1
    go_upto_region 7 with fail
    have H2:=Hq (show BxL w.heap.size w [(#[zl,zp,zf,.slice A L.length c,lf,dn,fr,ln,en,sf,tl,.slice FA fn fc,hd,.slice TA ts.length tc,nx],37),((rcA lsn xb n kind 0 next 0 0 0 ⟨#[]⟩ ⟨#[]⟩ 0 0 ⟨#[]⟩ 0 0 (.slice none 0 0) (.slice none 0 0)),55),(#[(),(),(),"s",(),false,(),(),(),(),"","s",(),"s",()],37)] (W1.setCell ⟨w.heap.size+1,1,none⟩ (.int .i64 xb))from H1.out.set 1 1 (.int .i64 xb) _ rfl)
    obtain⟨W2,hW2⟩:=ex (W1.setCell ⟨w.heap.size+1,1,none⟩ (.int .i64 xb))
    rw[← hW2]at H2
    rw[← hW2]
    clear hW2 hcx hzx hcg H1 HG
    go_wp2_with (first
     |(with_reducible refine lL H2.out.get0 Tryz.underlying37 ?_)
     |(with_reducible refine lL H2.out.get1 Tryz.underlying55 ?_)
     |(go_at_call 52;(with_reducible refine(HNO.out _ H2.out.below).mono ?_);rintro e w5 ⟨p',he,hs5,hf5,hb5⟩;have HF5:=Hq hf5;clear hf5;obtain⟨A2,c2,FA2,fn2,fc2,TA2,tc2⟩:=p';(try dsimp only[storeV]at he);subst he;have H5:=Hq (H2.out.step hb5))
     |(with_reducible refine lS #[zl2,zp2,zf2,.slice A2 L2.length c2,lf2,dn2,fr2,ln2,en2,sf2,tl2,.slice FA2 fn2 fc2,hd2,.slice TA2 ts2.length tc2,nx2] H5.out.get2 ?_))
    refine bodyPost_ret (v:=.tuple #[.agg #[zl2,zp2,zf2,.slice A2 L2.length c2,lf2,dn2,fr2,ln2,en2,sf2,tl2,.slice FA2 fn2 fc2,hd2,.slice TA2 ts2.length tc2,nx2],e2]) (results_cell2 rfl _ _ rfl (load_whole (setRow_heap _ _ _ _ _ _ H5.out.get2) Tryz.underlying37 Kr Kr) rfl) rfl ?_
    exact HMF.out ⟨A2,c2,FA2,fn2,fc2,TA2,tc2⟩ _ (hs5.other H5.out.get2 (by decide) (by decide) _) HF5.out ((H5.out.row 2 _ _ rfl).below)
   |true=>
    have hxd:xd=false:=by
     cases xd with
     |false=>rfl
     |true=>exact absurd ⟨rfl,rfl⟩ hod
    subst hxd
    go_enter Tryz.func63,Tryz.ntmps63
    go_upto_region 1 with fail
    have H0:=nW3 w #[zl,zp,zf,.slice A L.length c,lf,dn,fr,ln,en,sf,tl,.slice FA fn fc,hd,.slice TA ts.length tc,nx] 37 (rcA lsn prev n kind 0 next 0 0 0 ⟨#[]⟩ ⟨#[]⟩ 0 0 ⟨#[]⟩ 0 0 (.slice none 0 0) (.slice none 0 0)) 55 #[(),(),(),"s",(),false,(),(),(),(),"","s",(),"s",()] 37
    obtain⟨W0,hW0⟩:=exW H0
    rw[← hW0]at H0 ⊢
    clear hW0
    have hcr:=blkCell H0.out.get1
    go_upto_region 2 with(first
     |(with_reducible refine lL H0.out.get0 Tryz.underlying37 ?_)
     |(go_at_call 103;(with_reducible refine(HFI.out _ H0.out.below).mono ?_);rintro e w1 ⟨rfl,hb1⟩)
     |(with_reducible refine sN #[xa,xb,xc,false] ?_))
    have H1:=Hq (H0.out.step (pastAlloc (o:=.cells #[xa,xb,xc,false] 92) hb1))
    have HG:=Hq (heap_alloc_new w1 (.cells #[xa,xb,xc,false] 92))
    have hgb:w.heap.size+3≤w1.heap.size:=Nat.le_trans (H0.out.lt (i:=2) (by simp)) hb1.size
    obtain⟨gb,hge⟩:=ex w1.heap.size
    obtain⟨W1,hW1⟩:=ex (w1.alloc (.cells #[xa,xb,xc,false] 92))
    rw[← hge]at HG hgb
    rw[← hW1]at H1 HG
    rw[← hW1,← hge]
    clear hge hW1 hb1 H0 HFI hcr
    have hcg:=blkCell HG.out
    have hcx:=blkCell H1.out.get1
    have hzx:=blkFrozen H1.out.get1
    go_upto_region 7 with fail
    have H2:=Hq (show BxL w.heap.size w [(#[zl,zp,zf,.slice A L.length c,lf,dn,fr,ln,en,sf,tl,.slice FA fn fc,hd,.slice TA ts.length tc,nx],37),((rcA lsn xb n kind 0 next 0 0 0 ⟨#[]⟩ ⟨#[]⟩ 0 0 ⟨#[]⟩ 0 0 (.slice none 0 0) (.slice none 0 0)),55),(#[(),(),(),"s",(),false,(),(),(),(),"","s",(),"s",()],37)] (W1.setCell ⟨w.heap.size+1,1,none⟩ (.int .i64 xb))from H1.out.set 1 1 (.int .i64 xb) _ rfl)
    obtain⟨W2,hW2⟩:=ex (W1.setCell ⟨w.heap.size+1,1,none⟩ (.int .i64 xb))
    rw[← hW2]at H2
    rw[← hW2]
    clear hW2 hcx hzx hcg H1 HG
    go_wp2_with (first
     |(with_reducible refine lL H2.out.get0 Tryz.underlying37 ?_)
     |(with_reducible refine lL H2.out.get1 Tryz.underlying55 ?_)
     |(go_at_call 52;(with_reducible refine(HNO.out _ H2.out.below).mono ?_);rintro e w5 ⟨p',he,hs5,hf5,hb5⟩;have HF5:=Hq hf5;clear hf5;obtain⟨A2,c2,FA2,fn2,fc2,TA2,tc2⟩:=p';(try dsimp only[storeV]at he);subst he;have H5:=Hq (H2.out.step hb5))
     |(with_reducible refine lS #[zl2,zp2,zf2,.slice A2 L2.length c2,lf2,dn2,fr2,ln2,en2,sf2,tl2,.slice FA2 fn2 fc2,hd2,.slice TA2 ts2.length tc2,nx2] H5.out.get2 ?_))
    refine bodyPost_ret (v:=.tuple #[.agg #[zl2,zp2,zf2,.slice A2 L2.length c2,lf2,dn2,fr2,ln2,en2,sf2,tl2,.slice FA2 fn2 fc2,hd2,.slice TA2 ts2.length tc2,nx2],e2]) (results_cell2 rfl _ _ rfl (load_whole (setRow_heap _ _ _ _ _ _ H5.out.get2) Tryz.underlying37 Kr Kr) rfl) rfl ?_
    exact HMF.out ⟨A2,c2,FA2,fn2,fc2,TA2,tc2⟩ _ (hs5.other H5.out.get2 (by decide) (by decide) _) HF5.out ((H5.out.row 2 _ _ rfl).below)
theorem rend_any (s:Tx.St)(p:SP)(hb:Tx.LogB s)(hts:s.txns.length≤800000)(n:Int)(w:World)(h:StoreR w s p):
 Calls Tryz.prog 64 #[storeV s p,n] w (StOut (Tx.endS s n) p w):=by
 have HO:=Hq (fun W (hw:Below w.heap.size w W)=>show Calls Tryz.prog 63 #[storeV s p,.agg (rcA 0 0 n 7 0 0 0 0 0 ⟨#[]⟩ ⟨#[]⟩ 0 0 ⟨#[]⟩ 0 0 (.slice none 0 0) (.slice none 0 0)),false] W (StOut (Tx.endS s n) p W)from rown_any s p hb hts n false 0 0 7 0 W (h.below hw))
 have HM:=Hq (fun y (p':SP) w' (hx:Tx.endS s n=y) (hs:StoreR w' y.1 p') (hf:p'.F=p.F∧p'.fn=p.fn∧p'.fc=p.fc) (hb:Below w.heap.size w w')=>show StOut (Tx.endS s n) p w (.returned (.tuple #[storeV y.1 p',y.2])) w' from by rw[hx];exact⟨_,rfl,hs,hf,hb⟩)
 generalize Tx.endS s n=y at HO HM ⊢
 generalize StOut y p w=Q at HM ⊢
 have HMF:=Hq (fun(p':SP) w' hs hf hb=>HM.out y p' w' rfl hs hf hb)
 clear h hb hts HM
 obtain⟨⟨zl2,zp2,zf2,⟨L2,lf2,dn2⟩,⟨fr2,ln2,en2,sf2,tl2⟩,hd2,ts2,nx2⟩,e2⟩:=y
 obtain⟨zl,zp,zf,⟨L,lf,dn⟩,⟨fr,ln,en,sf,tl⟩,hd,ts,nx⟩:=s
 obtain⟨A,c,FA,fn,fc,TA,tc⟩:=p
 dsimp only[storeV]at HO HMF ⊢
 go_enter Tryz.func64,Tryz.ntmps64
 go_upto_region 1 with fail
 have H0:=nW2 w #[zl,zp,zf,.slice A L.length c,lf,dn,fr,ln,en,sf,tl,.slice FA fn fc,hd,.slice TA ts.length tc,nx] 37 #[(),(),(),"s",(),false,(),(),(),(),"","s",(),"s",()] 37
 obtain⟨W0,hW0⟩:=exW H0
 rw[← hW0]at H0 ⊢
 clear hW0
 go_wp2_with (first
  |(with_reducible refine lL H0.out.get0 Tryz.underlying37 ?_)
  |(go_at_call 63;(with_reducible refine(HO.out _ H0.out.below).mono ?_);rintro e w5 ⟨p',he,hs5,hf5,hb5⟩;have HF5:=Hq hf5;clear hf5;obtain⟨A2,c2,FA2,fn2,fc2,TA2,tc2⟩:=p';(try dsimp only[storeV]at he);subst he;have H5:=Hq (H0.out.step hb5))
  |(with_reducible refine lS #[zl2,zp2,zf2,.slice A2 L2.length c2,lf2,dn2,fr2,ln2,en2,sf2,tl2,.slice FA2 fn2 fc2,hd2,.slice TA2 ts2.length tc2,nx2] H5.out.get1 ?_))
 refine bodyPost_ret (v:=.tuple #[.agg #[zl2,zp2,zf2,.slice A2 L2.length c2,lf2,dn2,fr2,ln2,en2,sf2,tl2,.slice FA2 fn2 fc2,hd2,.slice TA2 ts2.length tc2,nx2],e2]) (results_cell2 rfl _ _ rfl (load_whole (setRow_heap _ _ _ _ _ _ H5.out.get1) Tryz.underlying37 Kr Kr) rfl) rfl ?_
 exact HMF.out ⟨A2,c2,FA2,fn2,fc2,TA2,tc2⟩ _ (hs5.other H5.out.get1 (by decide) (by decide) _) HF5.out ((H5.out.row 1 _ _ rfl).below)
theorem rbegin_any (s:Tx.St)(p:SP)(hb:Tx.LogB s)(hts:s.txns.length≤800000)(hnx0:0≤s.next)(hnx1:s.next≤1000000000)(w:World)(h:StoreR w s p):
 Calls Tryz.prog 25 #[storeV s p] w (BegOut (Tx.beginS s) p w):=by
 have HNO:=Hq (fun W (hw:Below w.heap.size w W)=>show Calls Tryz.prog 52 #[storeV s p,.agg (rcA 0 0 s.next 1 0 0 0 0 0 ⟨#[]⟩ ⟨#[]⟩ 0 0 ⟨#[]⟩ 0 0 (.slice none 0 0) (.slice none 0 0))] W (StOut (Tx.putS s (Rc.bare 1 0 0 s.next)) p W)from rput42_any s p hb hts 0 0 s.next 1 0 W (h.below hw))
 have hk:= @Tx.beginS_ok s
 have hn:= @Tx.beginS_no s
 have hx:=Tx.putS_next s (Rc.bare 1 0 0 s.next)
 generalize Tx.putS s (Rc.bare 1 0 0 s.next)=y at HNO hk hn hx
 obtain⟨⟨zl2,zp2,zf2,⟨L2,lf2,dn2⟩,⟨fr2,ln2,en2,sf2,tl2⟩,hd2,ts2,nx2⟩,e2⟩:=y
 simp only at hk hn hx
 by_cases he:e2=0
 ·subst he
  have HM:=Hq (fun(p':SP) w' (hs:StoreR w' ⟨zl2,zp2,zf2,⟨L2,lf2,dn2⟩,⟨fr2,ln2,en2,sf2,tl2⟩,hd2,ts2,nx2+1⟩ p') (hf:p'.F=p.F∧p'.fn=p.fn∧p'.fc=p.fc) (hb:Below w.heap.size w w')=>show BegOut (Tx.beginS s) p w (.returned (.tuple #[storeV ⟨zl2,zp2,zf2,⟨L2,lf2,dn2⟩,⟨fr2,ln2,en2,sf2,tl2⟩,hd2,ts2,nx2+1⟩ p',s.next,()])) w' from by rw[hk rfl];exact⟨_,rfl,hs,hf,hb⟩)
  generalize BegOut (Tx.beginS s) p w=Q at HM ⊢
  have hwn:IntKind.i64.wrap (nx2+1)=nx2+1:=IntWalk.i64_in _ (by omega)
  clear hk hn h hb hts hnx0 hnx1
  obtain⟨zl,zp,zf,⟨L,lf,dn⟩,⟨fr,ln,en,sf,tl⟩,hd,ts,nx⟩:=s
  have hx2:nx2=nx:=hx
  clear hx
  subst hx2
  obtain⟨A,c,FA,fn,fc,TA,tc⟩:=p
  dsimp only[storeV]at HNO HM ⊢
  go_enter Tryz.func25,Tryz.ntmps25
  go_upto_region 1 with fail
  have H0:=nW2 w #[zl,zp,zf,.slice A L.length c,lf,dn,fr,ln,en,sf,tl,.slice FA fn fc,hd,.slice TA ts.length tc,nx2] 37 #[(),(),(),"s",(),false,(),(),(),(),"","s",(),"s",()] 37
  obtain⟨W0,hW0⟩:=exW H0
  rw[← hW0]at H0 ⊢
  clear hW0
  have hc0:=blkCell H0.out.get0
  go_upto_region 2 with(first
   |(with_reducible refine lL H0.out.get0 Tryz.underlying37 ?_)
   |(go_at_call 52;(with_reducible refine(HNO.out _ H0.out.below).mono ?_);rintro e w5 ⟨p',he,hs5,hf5,hb5⟩;have HF5:=Hq hf5;clear hf5;obtain⟨A2,c2,FA2,fn2,fc2,TA2,tc2⟩:=p';(try dsimp only[storeV]at he);subst he)
   |(with_reducible refine sN #[zl2,zp2,zf2,.slice A2 L2.length c2,lf2,dn2,fr2,ln2,en2,sf2,tl2,.slice FA2 fn2 fc2,hd2,.slice TA2 ts2.length tc2,nx2] ?_))
  have H5:=Hq (H0.out.step (pastAlloc (o:=.cells #[zl2,zp2,zf2,.slice A2 L2.length c2,lf2,dn2,fr2,ln2,en2,sf2,tl2,.slice FA2 fn2 fc2,hd2,.slice TA2 ts2.length tc2,nx2] 37) hb5))
  have HG:=Hq (heap_alloc_new w5 (.cells #[zl2,zp2,zf2,.slice A2 L2.length c2,lf2,dn2,fr2,ln2,en2,sf2,tl2,.slice FA2 fn2 fc2,hd2,.slice TA2 ts2.length tc2,nx2] 37))
  have HS5:=Hq (hs5.below (allocB w5 (.cells #[zl2,zp2,zf2,.slice A2 L2.length c2,lf2,dn2,fr2,ln2,en2,sf2,tl2,.slice FA2 fn2 fc2,hd2,.slice TA2 ts2.length tc2,nx2] 37)))
  have hgb:w.heap.size+2≤w5.heap.size:=Nat.le_trans (H0.out.lt (i:=1) (by simp)) hb5.size
  obtain⟨gb,hge⟩:=ex w5.heap.size
  obtain⟨W5,hW5⟩:=ex (w5.alloc (.cells #[zl2,zp2,zf2,.slice A2 L2.length c2,lf2,dn2,fr2,ln2,en2,sf2,tl2,.slice FA2 fn2 fc2,hd2,.slice TA2 ts2.length tc2,nx2] 37))
  rw[← hge]at HG hgb
  rw[← hW5]at H5 HG HS5
  rw[← hW5,← hge]
  clear hge hW5 hb5 hs5 H0 hc0 HNO
  have hcg:=blkCell HG.out
  have hc5:=blkCell H5.out.get0
  have hzg:=blkFrozen HG.out
  go_upto_region 5 with fail
  have HG2:=Hq (show(W5.setCell ⟨gb,14,none⟩ (.int .i64 (nx2+1))).heap[gb]? =some (.cells #[zl2,zp2,zf2,.slice A2 L2.length c2,lf2,dn2,fr2,ln2,en2,sf2,tl2,.slice FA2 fn2 fc2,hd2,.slice TA2 ts2.length tc2,.int .i64 (nx2+1)] 37 (0,0))from by have h:=blkSet 14 HG.out (.int .i64 (nx2+1));simpa using h)
  have H6:=Hq (H5.out.under (M:=gb) (by show w.heap.size+2≤gb;exact hgb) ((Below.refl gb W5).setCell (p:=⟨gb,14,none⟩) (Nat.le_refl gb) (.int .i64 (nx2+1))))
  have HS6:=Hq (show StoreR (W5.setCell ⟨gb,14,none⟩ (.int .i64 (nx2+1))) ⟨zl2,zp2,zf2,⟨L2,lf2,dn2⟩,⟨fr2,ln2,en2,sf2,tl2⟩,hd2,ts2,nx2+1⟩ ⟨A2,c2,FA2,fn2,fc2,TA2,tc2⟩from by have h:=HS5.out.set HG.out (by decide) (by decide) 14 (.int .i64 (nx2+1));exact⟨h.dk,h.dt,h.tx,h.tt⟩)
  obtain⟨W6,hW6⟩:=ex (W5.setCell ⟨gb,14,none⟩ (.int .i64 (nx2+1)))
  rw[← hW6]at HG2 H6 HS6
  rw[← hW6]
  clear hW6 hcg hc5 hzg HG H5 HS5
  have X0:=blkOld HG2.out (Below.refl _ W6).drew
  have K0:=H6.out.drew
  have S0:=HS6.out.below (Below.refl _ W6).drew
  refine rgH (S:=(fun u=>u.heap[gb]? =some (.cells #[zl2,zp2,zf2,.slice A2 L2.length c2,lf2,dn2,fr2,ln2,en2,sf2,tl2,.slice FA2 fn2 fc2,hd2,.slice TA2 ts2.length tc2,.int .i64 (nx2+1)] 37 (0,0))∧u.heap[w.heap.size]? =some (.cells #[zl,zp,zf,.slice A L.length c,lf,dn,fr,ln,en,sf,tl,.slice FA fn fc,hd,.slice TA ts.length tc,nx2] 37 (0,0)))) (fun hHeld=>?_) (by first|exact hSn|exact⟨X0,K0.get0⟩)
  refine tkL 0 Tryz.underlying37 ?_
  refine tkW 1 (some 24) (v:=?_) rfl ?_ (tkW 2 (some 25) (v:=?_) rfl ?_ ?_)
  iterate 2 (rotate_left;focus(intro u hSu;have hSv:=blkCell hSu.2;clear hSu;go_simp;(try with_reducible rfl)))
  try simp only[Act.put,pS]
  refine rdP 3 fun K hK=>?_
  refine wantedIf (by rfl) ?_
  refine sW #[zl2,zp2,zf2,.slice A2 L2.length c2,lf2,dn2,fr2,ln2,en2,sf2,tl2,.slice FA2 fn2 fc2,hd2,.slice TA2 ts2.length tc2,.int .i64 (nx2+1)] K0.get1 ?_
  have K1:=K0.row 1 #[zl2,zp2,zf2,.slice A2 L2.length c2,lf2,dn2,fr2,ln2,en2,sf2,tl2,.slice FA2 fn2 fc2,hd2,.slice TA2 ts2.length tc2,.int .i64 (nx2+1)] _ rfl
  have hSn:=And.intro ((heap_setRow_other _ (w.heap.size+1) #[zl2,zp2,zf2,.slice A2 L2.length c2,lf2,dn2,fr2,ln2,en2,sf2,tl2,.slice FA2 fn2 fc2,hd2,.slice TA2 ts2.length tc2,.int .i64 (nx2+1)] gb (by omega)).trans X0) K1.get0
  refine hKo hK (fun hHeld=>?_) (by first|exact hSn|exact⟨X0,K0.get0⟩)
  clear hK K
  try simp only[Act.put]
  refine tkW 4 (some 3) (v:=?_) rfl ?_ (tkW 5 (some 4) (v:=?_) rfl ?_ ?_)
  iterate 2 (rotate_left;focus(intro u hSu;have hSv:=blkCell hSu.2;clear hSu;go_simp;(try with_reducible rfl)))
  try simp only[Act.put,pS]
  refine wpAnyH_done Kr ?_ _
  clear hHeld hSn
  go_wp2_with fail
  refine bodyPost_ret (v:=.tuple #[.agg #[zl2,zp2,zf2,.slice A2 L2.length c2,lf2,dn2,fr2,ln2,en2,sf2,tl2,.slice FA2 fn2 fc2,hd2,.slice TA2 ts2.length tc2,.int .i64 (nx2+1)],nx2,()]) (results_cell3 rfl _ _ rfl (load_whole (setRow_heap _ _ _ _ _ _ K0.get1) Tryz.underlying37 Kr Kr) rfl rfl) rfl ?_
  exact HM.out ⟨A2,c2,FA2,fn2,fc2,TA2,tc2⟩ _ (S0.other K0.get1 (by decide) (by decide) _) HF5.out (K1.below)
 ·have he1:(e2==0)=false:=by simpa using he
  have he2:(e2 != 0)=true:=by simpa using he
  have HM:=Hq (fun w' (hb:Below w.heap.size w w')=>show BegOut (Tx.beginS s) p w (.returned (.tuple #[storeV s p,(),e2])) w' from by rw[hn he];exact⟨_,rfl,h.below hb,⟨rfl,rfl,rfl⟩,hb⟩)
  generalize BegOut (Tx.beginS s) p w=Q at HM ⊢
  clear hk hn hx h hb hts hnx0 hnx1 he
  obtain⟨zl,zp,zf,⟨L,lf,dn⟩,⟨fr,ln,en,sf,tl⟩,hd,ts,nx⟩:=s
  obtain⟨A,c,FA,fn,fc,TA,tc⟩:=p
  dsimp only[storeV]at HNO HM ⊢
  go_enter Tryz.func25,Tryz.ntmps25
  go_upto_region 1 with fail
  have H0:=nW2 w #[zl,zp,zf,.slice A L.length c,lf,dn,fr,ln,en,sf,tl,.slice FA fn fc,hd,.slice TA ts.length tc,nx] 37 #[(),(),(),"s",(),false,(),(),(),(),"","s",(),"s",()] 37
  obtain⟨W0,hW0⟩:=exW H0
  rw[← hW0]at H0 ⊢
  clear hW0
  have hc0:=blkCell H0.out.get0
  go_upto_region 2 with(first
   |(with_reducible refine lL H0.out.get0 Tryz.underlying37 ?_)
   |(go_at_call 52;(with_reducible refine(HNO.out _ H0.out.below).mono ?_);rintro e w5 ⟨p',he,hs5,hf5,hb5⟩;clear hf5 hs5;obtain⟨A2,c2,FA2,fn2,fc2,TA2,tc2⟩:=p';(try dsimp only[storeV]at he);subst he)
   |(with_reducible refine sN #[zl2,zp2,zf2,.slice A2 L2.length c2,lf2,dn2,fr2,ln2,en2,sf2,tl2,.slice FA2 fn2 fc2,hd2,.slice TA2 ts2.length tc2,nx2] ?_))
  have H5:=Hq (H0.out.step (pastAlloc (o:=.cells #[zl2,zp2,zf2,.slice A2 L2.length c2,lf2,dn2,fr2,ln2,en2,sf2,tl2,.slice FA2 fn2 fc2,hd2,.slice TA2 ts2.length tc2,nx2] 37) hb5))
  obtain⟨W5,hW5⟩:=ex (w5.alloc (.cells #[zl2,zp2,zf2,.slice A2 L2.length c2,lf2,dn2,fr2,ln2,en2,sf2,tl2,.slice FA2 fn2 fc2,hd2,.slice TA2 ts2.length tc2,nx2] 37))
  rw[← hW5]at H5
  rw[← hW5]
  clear hW5 hb5 H0 hc0 HNO
  go_wp2_with (first
   |(with_reducible refine lL H5.out.get0 Tryz.underlying37 ?_)
   |(with_reducible refine lS #[zl,zp,zf,.slice A L.length c,lf,dn,fr,ln,en,sf,tl,.slice FA fn fc,hd,.slice TA ts.length tc,nx] H5.out.get1 ?_))
  refine bodyPost_ret (v:=.tuple #[.agg #[zl,zp,zf,.slice A L.length c,lf,dn,fr,ln,en,sf,tl,.slice FA fn fc,hd,.slice TA ts.length tc,nx],(),e2]) (results_cell3 rfl _ _ rfl (load_whole (setRow_heap _ _ _ _ _ _ H5.out.get1) Tryz.underlying37 Kr Kr) rfl rfl) rfl ?_
  exact HM.out _ ((H5.out.row 1 _ _ rfl).below)
theorem info_str:(Tryz.prog.info? 9).map (fun i=>(i.zero,i.size,i.bytes))=some (some (.string ⟨#[]⟩),1,16):=by kernel_rfl
def rcells (b:ByteArray)(n m:Nat):List Value:=List.replicate m (.string b)++List.replicate (n-m) (.string ⟨#[]⟩)
theorem rcells_len (b:ByteArray)(n m:Nat)(h:m≤n):(rcells b n m).length=n:=by unfold rcells;simp;omega
theorem rcells_at (b:ByteArray)(n m j:Nat)(hj:j<m):(rcells b n m).toArray[j]? =some (.string b):=by
 unfold rcells
 rw[List.getElem?_toArray,List.getElem?_append_left (by simpa using hj),List.getElem?_replicate,if_pos hj]
theorem rcells_more (b:ByteArray)(n m k:Nat)(h:m+k≤n):splice (rcells b n m) m (List.replicate k (.string b))=rcells b n (m+k):=by
 unfold splice rcells
 rw[List.take_left' (by simp),List.drop_append,List.length_replicate,List.length_replicate,List.drop_of_length_le (by simp),List.nil_append,← List.append_assoc,List.replicate_append_replicate,List.drop_replicate]
 congr 2
 omega
theorem make_strs (n:Nat)(hn:n≤4096)(W:World):(Instr.makeSlice 27 (.int .i64 (n:Int)) (.int .i64 (n:Int))).run Tryz.prog W= .ok (.slice (some ⟨W.heap.size,0,none⟩) n n) (W.alloc (.cells (madeCells #[Value.string ⟨#[]⟩] n) 9)):=by
 obtain⟨i0,hi,hz0,hz1,hz2⟩:=info_parts info_str
 have h:=run_make (P:=Tryz.prog) W 27 9 i0 (.string ⟨#[]⟩) Tryz.underlying27 hi hz0 .i64 .i64 n n (by omega) (by omega) (by rw[hz2];omega) (by omega)
 rw[hz1,Int.toNat_natCast,Nat.mul_one]at h
 exact h
theorem made_strs (b:ByteArray)(n:Nat):madeCells #[Value.string ⟨#[]⟩] n=(rcells b n 0).toArray:=by
 unfold madeCells rcells
 apply Array.ext_getElem?
 intro i
 by_cases hi:i<n
 ·simp[hi,Nat.mod_one]
 ·simp[hi]
theorem srepeat_any (b:ByteArray)(n:Nat)(h1:1≤n)(hn:n≤1000)(g0:Nat)(w:World)(hx:w.heap[g0]? =some (.cells #[b] 9 (0,0))):
 Calls Tryz.prog 51 #[.slice (some ⟨g0,0,none⟩) 1 1,.int .i64 (n:Int)] w fun e w'=>∃ v,e= .returned v∧OwnL strC 1 9 w.heap.size w' v (List.replicate n b)∧Below w.heap.size w w':=by
 have HMU:=Hq (fun W=>show Calls Tryz.prog 92 #[.int .u64 1,.int .u64 (n:Int)] W fun e w'=>e= .returned (.tuple #[.int .u64 0,.int .u64 (n:Int)])∧w'=W from by
  have h:=Tryz.bits_Mul 1 n (by omega) (by omega) W
  rw[show 1*n/18446744073709551616=0 by omega,show 1*n%18446744073709551616=n by omega]at h
  exact h)
 have hmk:=fun W=>make_strs n (by omega) W
 rw[made_strs b n]at hmk
 have hn0:¬ (n:Int)<0:=by omega
 have hX:=Hq hx
 have hnI:¬ (9223372036854775807:Int)<(n:Int):=by omega
 have hw1:IntKind.u64.wrap (n:Int)=(n:Int):=IntWalk.u64_in _ (by omega)
 have hw2:IntKind.i64.wrap (n:Int)=(n:Int):=IntWalk.i64_in _ (by omega)
 clear hx
 go_enter Tryz.func51,Tryz.ntmps51
 go_upto_region 7 with(go_at_call 92;(with_reducible refine(HMU.out _).mono ?_);rintro e w1 ⟨rfl,hww⟩;have hw9:=hww.symm;subst hw9;clear hww)
 have HX1:=Hq (blkOld hX.out (allocB w (.cells (rcells b n 0).toArray 9)))
 have HSZ:=Hq (show(Tryz.prog.info? 9).map (·.size)=some 1 from by kernel_rfl)
 have hsp1:splice (rcells b n 0) 0 [.string b]=rcells b n 1:=rcells_more b n 0 1 (by omega)
 obtain⟨g,hg⟩:=ex w.heap.size
 clear hmk HMU hX
 have hcp:∀ ty,(Builtin.copy_ #[27,27] ty #[.slice (some ⟨w.heap.size,0,none⟩) n n,.slice (some ⟨g0,0,none⟩) 1 1]).run Tryz.prog (w.alloc (.cells (rcells b n 0).toArray 9))= .ok (.int .i64 1) ((w.alloc (.cells (rcells b n 0).toArray 9)).setRow w.heap.size (rcells b n 1).toArray):=fun ty=>by
  have h:=run_copy_row (P:=Tryz.prog) (w.alloc (.cells (rcells b n 0).toArray 9)) 27 27 ty 9 w.heap.size 0 n n ⟨g0,0,none⟩ 1 1 (rcells b n 0).toArray 9 [.string b] Tryz.underlying27 HSZ.out (heap_alloc_new w _) (by show 1=min 1 n;omega) (fun j v hj=>by
   have hj0:j=0:=by have:=(List.getElem?_eq_some_iff.1 hj).1;simpa using this
   subst hj0
   rw[Addr.add_mid,blkCell HX1.out];simpa using hj) (by have:=rcells_len b n 0 (by omega);simp[this];omega) (fun v hv=>by rw[List.mem_singleton.1 hv];rfl)
  rw[← hsp1]
  unfold splice
  simp only[List.append_assoc]at h
  exact h
 have hg2:Hid (((w.alloc (.cells (rcells b n 0).toArray 9)).setRow w.heap.size (rcells b n 1).toArray).heap[g]? =some (.cells (rcells b n 1).toArray 9 (0,0))):=Hq (by rw[hg];exact setRow_heap _ _ _ _ _ _ (heap_alloc_new w _))
 have hb2:Below w.heap.size w ((w.alloc (.cells (rcells b n 0).toArray 9)).setRow w.heap.size (rcells b n 1).toArray):=below_setRow (allocB w _) (Nat.le_refl _) _
 have HG:=Hq hg
 go_upto_block 0 with fail
 obtain⟨w2,hw2⟩:=ex ((w.alloc (.cells (rcells b n 0).toArray 9)).setRow w.heap.size (rcells b n 1).toArray)
 rw[← hw2]at hg2 hb2
 rw[← hw2,← hg]
 clear hsp1 hg HX1 hcp hw2
 go_wp2_with fail
 go_loopw [8] (fun i wr=>∃ m:Nat,i= .int .i64 (m:Int)∧1≤m∧m≤n∧Hid (wr.heap[g]? =some (.cells (rcells b n m).toArray 9 (0,0)))∧Below w.heap.size w wr) (fun i _=>n-(intOf i).toNat)
 case atStart=>exact⟨1,rfl,Nat.le_refl _,h1,hg2,hb2⟩
 case round=>
  obtain⟨m,rfl,hm1,hmn,hgm,hbm⟩:=hrel
  have HB:=Hq hbm
  clear hbm hg2 hb2
  by_cases hlt:m<n
  ·have hltI:(m:Int)<(n:Int):=by omega
   have hne:¬ n=m:=by omega
   have hmI:(m:Int)≤(n:Int):=by omega
   have hm0:(0:Int)≤(m:Int):=by omega
   obtain⟨k,hk⟩:=ex (min m (n-m))
   have HK:=Hq hk
   have hwk:IntKind.i64.wrap ((m:Int)+(k:Int))=((m+k:Nat):Int):=by rw[Int.natCast_add];exact IntWalk.i64_in _ (by omega)
   have HSP:=Hq (rcells_more b n m k (by omega))
   have HMN:=Hq hmn
   have HM1:=Hq hm1
   clear hk hm1 hmn
   go_upto_region 9 with fail
   refine rgH (S:=(fun _=>True)) (fun hHeld=>?_) (by trivial)
   refine tkP 0 ?_;refine tkP 1 ?_;refine tkP 2 ?_;refine tkP 3 ?_;refine tkP 4 ?_;refine tkP 5 ?_;refine tkP 6 ?_
   refine rdP 7 fun K hK=>?_
   refine step_copy_splice rfl (.tmp 41) (.tmp 44) 27 27 rfl 9 Tryz.underlying27 HSZ.out (some ⟨g,m,none⟩) (some ⟨g,0,none⟩) (n-m) (n-m) m n rfl rfl g m (rcells b n m) 9 hgm.out (List.replicate k (.string b)) (by rw[List.length_replicate];exact HK.out) (fun _=>⟨rfl,_,rfl,fun j v hj=>by(have hj0:j<k:=by(have:=(List.getElem?_eq_some_iff.1 hj).1;simpa using this));rw[Addr.add_mid,blkCell (show wr.drew.heap[g]? =_ from hgm.out)];(have:=HK.out);rw[rcells_at b n m (0+j) (by omega)];rw[List.getElem?_replicate,if_pos hj0]at hj;exact hj⟩) (by rw[rcells_len _ _ _ HMN.out,List.length_replicate];have:=HK.out;omega) (fun v hv=>by rw[(List.mem_replicate.1 hv).2];rfl) w.heap.size w HB.out.drew (by rw[HG.out];exact Nat.le_refl _) ?_
   intro w5 hg5 hb5
   rw[HSP.out]at hg5
   rw[List.length_replicate]
   refine hKo hK (fun hHeld=>?_) (by trivial)
   clear hK K
   refine tkP 8 ?_;refine tkP 9 ?_
   refine wpAnyH_done Kr ?_ _
   clear hHeld
   go_wp2_with fail
   go_roundw
   case rel=>exact⟨m+k,(by go_num),by have:=HM1.out;omega,by have:=HK.out;omega,hg5,hb5⟩
   case measure=>have:=HK.out;have:=HM1.out;simp[intOf];omega
  ·obtain rfl:m=n:=by omega
   have hne:¬ (m:Int)<(m:Int):=by omega
   have HF:=Hq (show OwnL strC 1 9 w.heap.size wr (.slice (some ⟨g,0,none⟩) m m) (List.replicate m b)from by
    unfold OwnL
    rw[List.length_replicate]
    refine⟨by rw[flat_len strC_len,List.length_replicate],.inr ⟨g,m,_,rfl,by rw[HG.out];exact Nat.le_refl _,hgm.out,Nat.le_refl _,Nat.le_trans hn (by decide),by rw[← Array.length_toList];simp[rcells_len],?_⟩⟩
    rw[strC_map]
    unfold rcells
    simp)
   go_wp2_with fail
   go_ret
   exact⟨_,rfl,HF.out,HB.out⟩
def CNewOut (d:Lg.Dk)(w:World)(e:Ending)(w':World):Prop:=
 ∃ A c,e= .returned (.tuple #[diskV d A c,()])∧DiskR w' d A c∧NewT w.heap.size w' 9 A∧Below w.heap.size w w'
theorem cnew_any (n:Nat)(h1:1≤n)(hn:n≤1000)(w:World):
 Calls Tryz.prog 22 #[.int .i64 (n:Int)] w (CNewOut (Lg.newD n) w):=by
 have hz:(⟨(Go.Lib.repeatL (⟨#[0]⟩:ByteArray).data.toList 128).toArray⟩:ByteArray)=Lg.zero128:=Lg.repeat_zero 128
 have HZ:=Hq (fun W=>show Calls Tryz.prog 50 #[.string ⟨#[0]⟩,.int .i64 128] W fun e w'=>e= .returned (.string Lg.zero128)∧Below W.heap.size W w' from by
  have h:=Tryz.strings_Repeat ⟨#[0]⟩ 128 W (by omega) (show(⟨#[0]⟩:ByteArray).size*128≤140737488355328 from(by show 1*128≤_;omega))
  rw[hz]at h
  exact h)
 clear hz
 have HR:=Hq (fun g W h=>srepeat_any Lg.zero128 n h1 hn g W h)
 have HF:=Hq (fun A c w' (hr:Reads w' A c n ((List.replicate n Lg.zero128).flatMap strC)) (ht:NewT w.heap.size w' 9 A) (hb:Below w.heap.size w w')=>show CNewOut (Lg.newD n) w (.returned (.tuple #[.agg #[.slice A n c,.int .i64 (-1),false],()])) w' from by
  refine⟨A,c,?_,⟨?_,?_⟩,ht,hb⟩
  ·unfold diskV Lg.newD;simp
  ·unfold Lg.newD;simpa using hr
  ·unfold Lg.newD;simp;omega)
 generalize Lg.zero128=z at HZ HR HF
 generalize CNewOut (Lg.newD n) w=Q at HF ⊢
 have h1':¬ (n:Int)<1:=by omega
 have h2':¬ 65536<(n:Int):=by omega
 go_enter Tryz.func22,Tryz.ntmps22
 go_upto_region 1 with fail
 have H0:=nW1 w #["s",(),false] 29
 obtain⟨W0,hW0⟩:=exW H0
 rw[← hW0]at H0 ⊢
 clear hW0
 go_upto_region 4 with(go_at_call 50;(with_reducible refine(HZ.out _).mono ?_);rintro e w1 ⟨rfl,hb1⟩)
 have H1:=Hq (H0.out.step (pastAlloc (o:=.cells #[z] 9) hb1))
 have HX:=Hq (heap_alloc_new w1 (.cells #[z] 9))
 have HRR:=Hq (HR.out w1.heap.size (w1.alloc (.cells #[z] 9)) HX.out)
 go_wp2_with (first
  |(go_at_call 51;(with_reducible refine HRR.out.mono ?_);rintro e w2 ⟨v,rfl,ho,hb2⟩;obtain⟨A,c,hv⟩:=ownLen ho;rw[List.length_replicate]at hv;subst hv;have H2:=Hq (H1.out.step hb2))
  |(with_reducible refine lS #[.slice A n c,.int .i64 (-1),false] H2.out.get0 ?_))
 refine bodyPost_ret (v:=.tuple #[.agg #[.slice A n c,.int .i64 (-1),false],()]) (results_cell2 rfl _ _ rfl (load_whole (setRow_heap _ _ _ _ _ _ H2.out.get0) Tryz.underlying29 Kr Kr) rfl) rfl ?_
 have ho2:=ho
 unfold OwnL at ho2
 rw[List.length_replicate]at ho2
 have hsz:w.heap.size≤(w1.alloc (.cells #[z] 9)).heap.size:=by simp;have:=hb1.size;have:=H0.out.below.size;omega
 have ht:=NewT.own ho2
 exact HF.out A c _ (ht.readsRow (own_reads ho2) H2.out.get0 (by decide) _) ((ht.row _ _).mono hsz) (by have h:=(H2.out.row 0 #[.slice A n c,.int .i64 (-1),false] _ rfl).below;simpa using h)
end Go.Proofs.YtilakddepaplhaaGreat
namespace Tx
theorem own_same {s:St}{n:Int}{o:Bool}{r:Rc.Rec}(h:¬ (ownS s n o r).2=0):(ownS s n o r).1=s:=by
 unfold ownS at h ⊢
 split
 ·rfl
 ·rename_i h1
  rw[if_neg h1]at h
  split
  ·rfl
  ·rename_i h2
   rw[if_neg h2]at h
   unfold putS at h ⊢
   split
   ·rename_i h3
    rw[if_pos h3]at h
    exact absurd rfl h
   ·rfl
end Tx
namespace Go.Proofs.YtilakddepaplhaaGreat
open Go.RowKit
theorem rcommit_any (s:Tx.St)(p:SP)(hb:Tx.LogB s)(hal:Lg.Al s.log)(hts:s.txns.length≤700000)(hlf: -9223372036854775808≤s.disk.left∧s.disk.left≤9223372036854775807)(n:Int)(w:World)(h:StoreR w s p):
 Calls Tryz.prog 27 #[storeV s p,n] w (StOut (Tx.commitS s n) p w):=by
 have HO:=Hq (fun W (hw:Below w.heap.size w W)=>show Calls Tryz.prog 63 #[storeV s p,.agg (rcA 0 0 n 5 0 0 0 0 0 ⟨#[]⟩ ⟨#[]⟩ 0 0 ⟨#[]⟩ 0 0 (.slice none 0 0) (.slice none 0 0)),true] W (StOut (Tx.ownS s n true (Rc.bare 5 0 0 0)) p W)from rown_any s p hb (by omega) n true 0 0 5 0 W (h.below hw))
 have HS0:=Hq (fun W (hw:Below w.heap.size w W)=>h.below hw)
 have hb1:=Tx.logB_own hb n true (Rc.bare 5 0 0 0)
 have hl1:=Tx.ownS_len s n true (Rc.bare 5 0 0 0)
 have hd1:=Tx.ownS_disk s n true (Rc.bare 5 0 0 0)
 have ha1:=Tx.al_own n true (Rc.bare 5 0 0 0) hal
 have hf1:= @Tx.own_found s n
 have hs1:= @Tx.own_same s n true (Rc.bare 5 0 0 0)
 have c1:= @Tx.commitS_no s n
 have c2:= @Tx.commitS_stop s n
 have c3:= @Tx.commitS_go s n
 have HM:=Hq (fun y (p':SP) w' (hx:Tx.commitS s n=y) (hs:StoreR w' y.1 p') (hf:p'.F=p.F∧p'.fn=p.fn∧p'.fc=p.fc) (hb:Below w.heap.size w w')=>show StOut (Tx.commitS s n) p w (.returned (.tuple #[storeV y.1 p',y.2])) w' from by rw[hx];exact⟨_,rfl,hs,hf,hb⟩)
 generalize StOut (Tx.commitS s n) p w=Q at HM ⊢
 generalize Tx.commitS s n=R at c1 c2 c3 HM
 generalize Tx.ownS s n true (Rc.bare 5 0 0 0)=y1 at HO hb1 hl1 hd1 ha1 hf1 hs1 c1 c2 c3
 have hlf1: -9223372036854775808≤y1.1.disk.left∧y1.1.disk.left≤9223372036854775807:=by rw[hd1];exact hlf
 have hlen1:y1.1.txns.length≤700001:=by omega
 clear hl1 hd1 hlf hb hts h hal
 by_cases he:y1.2=0
 rotate_left
 ·have hx:=c1 he
  have hs2:=hs1 he
  have HMF:=Hq (fun w' (hw:Below w.heap.size w w')=>show Q (.returned (.tuple #[storeV s p,y1.2])) w' from by
   have h9:=HM.out y1 p w' hx (by rw[hs2];exact HS0.out w' hw) ⟨rfl,rfl,rfl⟩ hw
   rw[hs2]at h9
   exact h9)
  have he1:(y1.2==0)=false:=by simpa using he
  have he2:(y1.2 != 0)=true:=by simpa using he
  clear c1 c2 c3 HM he hb1 hlf1 hlen1 hs1 hs2 hx hf1 ha1 HS0
  obtain⟨⟨zl2,zp2,zf2,⟨L2,lf2,dn2⟩,⟨fr2,ln2,en2,sf2,tl2⟩,hd2,ts2,nx2⟩,e2⟩:=y1
  obtain⟨zl,zp,zf,⟨L,lf,dn⟩,⟨fr,ln,en,sf,tl⟩,hd,ts,nx⟩:=s
  obtain⟨A,c,FA,fn,fc,TA,tc⟩:=p
  dsimp only[storeV]at HO HMF he1 he2 ⊢
  go_enter Tryz.func27,Tryz.ntmps27
  go_upto_region 1 with fail
  have H0:=nW2 w #[zl,zp,zf,.slice A L.length c,lf,dn,fr,ln,en,sf,tl,.slice FA fn fc,hd,.slice TA ts.length tc,nx] 37 #[(),(),(),"s",(),false,(),(),(),(),"","s",(),"s",()] 37
  obtain⟨W0,hW0⟩:=exW H0
  rw[← hW0]at H0 ⊢
  clear hW0
  go_upto_region 2 with(first
   |(with_reducible refine lL H0.out.get0 Tryz.underlying37 ?_)
   |(go_at_call 63;(with_reducible refine(HO.out _ H0.out.below).mono ?_);rintro e w5 ⟨p',he,hs5,hf5,hb5⟩;clear hf5 hs5;obtain⟨A2,c2,FA2,fn2,fc2,TA2,tc2⟩:=p';(try dsimp only[storeV]at he);subst he)
   |(with_reducible refine sN #[zl2,zp2,zf2,.slice A2 L2.length c2,lf2,dn2,fr2,ln2,en2,sf2,tl2,.slice FA2 fn2 fc2,hd2,.slice TA2 ts2.length tc2,nx2] ?_))
  have H5:=Hq (H0.out.step (pastAlloc (o:=.cells #[zl2,zp2,zf2,.slice A2 L2.length c2,lf2,dn2,fr2,ln2,en2,sf2,tl2,.slice FA2 fn2 fc2,hd2,.slice TA2 ts2.length tc2,nx2] 37) hb5))
  obtain⟨W5,hW5⟩:=ex (w5.alloc (.cells #[zl2,zp2,zf2,.slice A2 L2.length c2,lf2,dn2,fr2,ln2,en2,sf2,tl2,.slice FA2 fn2 fc2,hd2,.slice TA2 ts2.length tc2,nx2] 37))
  rw[← hW5]at H5
  rw[← hW5]
  clear hW5 hb5 H0 HO
  go_wp2_with (first
   |(with_reducible refine lL H5.out.get0 Tryz.underlying37 ?_)
   |(with_reducible refine lS #[zl,zp,zf,.slice A L.length c,lf,dn,fr,ln,en,sf,tl,.slice FA fn fc,hd,.slice TA ts.length tc,nx] H5.out.get1 ?_))
  refine bodyPost_ret (v:=.tuple #[.agg #[zl,zp,zf,.slice A L.length c,lf,dn,fr,ln,en,sf,tl,.slice FA fn fc,hd,.slice TA ts.length tc,nx],e2]) (results_cell2 rfl _ _ rfl (load_whole (setRow_heap _ _ _ _ _ _ H5.out.get1) Tryz.underlying37 Kr Kr) rfl) rfl ?_
  exact HMF.out _ ((H5.out.row 1 _ _ rfl).below)
 have d2:=c2 he
 have d3:=c3 he
 have hfd:=hf1 he
 clear c1 c2 c3 hs1 hf1 HS0
 have hb2:=Tx.logB_force hb1
 have hff:Tx.forceS y1.1=({y1.1 with disk:=(Lg.forceD y1.1.disk y1.1.log).1,log:=(Lg.forceD y1.1.disk y1.1.log).2.1},(Lg.forceD y1.1.disk y1.1.log).2.2):=rfl
 rw[hff]at d2 d3 hb2
 clear hff
 have HFO:=Hq (fun A c W (hd:DiskR W y1.1.disk A c) (hT:NewT 0 W 9 A)=>rforce_any y1.1.disk hlf1 A c y1.1.log ha1 (by have:=hb1.e1;omega) (by have:=hb1.n0;omega) (by have:=hb1.n1;omega) (by have:=hb1.f;omega) (by have:=hb1.f;omega) (by have:=hb1.t0;have:=hb1.e1;omega) W hd hT)
 generalize Lg.forceD y1.1.disk y1.1.log=fo at HFO d2 d3 hb2
 obtain⟨⟨L3,lf3,dn3⟩,⟨fr3,ln3,en3,sf3,tl3⟩,e3⟩:=fo
 obtain⟨⟨zl2,zp2,zf2,⟨L2,lf2,dn2⟩,⟨fr2,ln2,en2,sf2,tl2⟩,hd2,ts2,nx2⟩,e2⟩:=y1
 simp only at he d2 d3 hb2 hlen1 HFO hfd
 subst he
 clear hb1 hlf1 ha1
 have HB2:=Hq hb2
 have HFD:=Hq hfd
 clear hb2 hfd
 obtain⟨zl,zp,zf,⟨L,lf,dn⟩,⟨fr,ln,en,sf,tl⟩,hd,ts,nx⟩:=s
 obtain⟨A,c,FA,fn,fc,TA,tc⟩:=p
 dsimp only[storeV,diskV,logV]at HO HFO ⊢
 go_enter Tryz.func27,Tryz.ntmps27
 go_upto_region 1 with fail
 have H0:=nW2 w #[zl,zp,zf,.slice A L.length c,lf,dn,fr,ln,en,sf,tl,.slice FA fn fc,hd,.slice TA ts.length tc,nx] 37 #[(),(),(),"s",(),false,(),(),(),(),"","s",(),"s",()] 37
 obtain⟨W0,hW0⟩:=exW H0
 rw[← hW0]at H0 ⊢
 clear hW0
 go_upto_region 2 with(first
  |(with_reducible refine lL H0.out.get0 Tryz.underlying37 ?_)
  |(go_at_call 63;(with_reducible refine(HO.out _ H0.out.below).mono ?_);rintro e w5 ⟨p',he,hs5,hf5,hb5⟩;have HF5:=Hq hf5;clear hf5;obtain⟨A2,c2,FA2,fn2,fc2,TA2,tc2⟩:=p';(try dsimp only[storeV]at he);subst he)
  |(with_reducible refine sN #[zl2,zp2,zf2,.slice A2 L2.length c2,lf2,dn2,fr2,ln2,en2,sf2,tl2,.slice FA2 fn2 fc2,hd2,.slice TA2 ts2.length tc2,nx2] ?_))
 have H6:=Hq (H0.out.step (pastAlloc (o:=.cells #[zl2,zp2,zf2,.slice A2 L2.length c2,lf2,dn2,fr2,ln2,en2,sf2,tl2,.slice FA2 fn2 fc2,hd2,.slice TA2 ts2.length tc2,nx2] 37) hb5))
 have HG6:=Hq (heap_alloc_new w5 (.cells #[zl2,zp2,zf2,.slice A2 L2.length c2,lf2,dn2,fr2,ln2,en2,sf2,tl2,.slice FA2 fn2 fc2,hd2,.slice TA2 ts2.length tc2,nx2] 37))
 have HS6:=Hq (hs5.below (allocB w5 (.cells #[zl2,zp2,zf2,.slice A2 L2.length c2,lf2,dn2,fr2,ln2,en2,sf2,tl2,.slice FA2 fn2 fc2,hd2,.slice TA2 ts2.length tc2,nx2] 37)))
 have hbt:w.heap.size+2≤w5.heap.size:=Nat.le_trans (H0.out.lt (i:=1) (by simp)) hb5.size
 obtain⟨bt,hbte⟩:=ex w5.heap.size
 obtain⟨W6,hW6⟩:=ex (w5.alloc (.cells #[zl2,zp2,zf2,.slice A2 L2.length c2,lf2,dn2,fr2,ln2,en2,sf2,tl2,.slice FA2 fn2 fc2,hd2,.slice TA2 ts2.length tc2,nx2] 37))
 rw[← hbte]at HG6 hbt
 rw[← hW6]at H6 HG6 HS6
 rw[← hW6,← hbte]
 clear hW6 hbte hs5 hb5 H0 HO
 have HFF:=Hq (HFO.out A2 c2 W6 HS6.out.dk HS6.out.dt)
 clear HFO
 go_upto_region 5 with(first
  |(with_reducible refine lP #[.slice A2 L2.length c2,lf2,dn2] HG6.out Tryz.underlying29 ?_)
  |(with_reducible refine lP #[fr2,ln2,en2,sf2,tl2] HG6.out Tryz.underlying31 ?_)
  |(go_at_call 34;(with_reducible refine HFF.out.mono ?_);rintro e w7 ⟨A3,c3,he,hd7,ht7,hb7⟩;dsimp only[diskV,logV]at he;subst he;have HD0:=Hq (blkOld (heap_alloc_new w7 (.cells #["s",(),false] 29)) (allocB (w7.alloc (.cells #["s",(),false] 29)) (.cells #[(),(),(),(),""] 31)));have HL0:=Hq (show(((w7.alloc (.cells #["s",(),false] 29)).alloc (.cells #[(),(),(),(),""] 31)).setRow w7.heap.size #[.slice A3 L3.length c3,lf3,dn3]).heap[w7.heap.size+1]? =some (.cells #[(),(),(),(),""] 31 (0,0))from(heap_setRow_other _ _ _ _ (by omega)).trans (by have h:=heap_alloc_new (w7.alloc (.cells #["s",(),false] 29)) (.cells #[(),(),(),(),""] 31);simpa using h)))
  |(with_reducible refine lS #[.slice A3 L3.length c3,lf3,dn3] HD0.out ?_)
  |(with_reducible refine lS #[fr3,ln3,en3,sf3,tl3] HL0.out ?_))
 obtain⟨bd,hbd⟩:=ex w7.heap.size
 have hB7:bt<bd:=by rw[hbd];exact Nat.lt_of_lt_of_le (heapLt HG6.out) hb7.size
 have hC:Below w7.heap.size w7 ((((w7.alloc (.cells #["s",(),false] 29)).alloc (.cells #[(),(),(),(),""] 31)).setRow w7.heap.size #[.slice A3 L3.length c3,lf3,dn3]).setRow (w7.heap.size+1) #[fr3,ln3,en3,sf3,tl3]):=below_setRow (below_setRow (pastAlloc (allocB w7 _)) (Nat.le_refl _) _) (Nat.le_succ _) _
 have HD8:=Hq (show((((w7.alloc (.cells #["s",(),false] 29)).alloc (.cells #[(),(),(),(),""] 31)).setRow w7.heap.size #[.slice A3 L3.length c3,lf3,dn3]).setRow (w7.heap.size+1) #[fr3,ln3,en3,sf3,tl3]).heap[bd]? =some (.cells #[.slice A3 L3.length c3,lf3,dn3] 29 (0,0))from(heap_setRow_other _ _ _ _ (by omega)).trans (by rw[hbd];exact setRow_heap _ _ _ _ _ _ HD0.out))
 have HL8:=Hq (show((((w7.alloc (.cells #["s",(),false] 29)).alloc (.cells #[(),(),(),(),""] 31)).setRow w7.heap.size #[.slice A3 L3.length c3,lf3,dn3]).setRow (w7.heap.size+1) #[fr3,ln3,en3,sf3,tl3]).heap[bd+1]? =some (.cells #[fr3,ln3,en3,sf3,tl3] 31 (0,0))from by rw[hbd];exact setRow_heap _ _ _ _ _ _ HL0.out)
 have H8:=Hq ((H6.out.step hb7).step hC)
 have HG8:=Hq (blkOld (blkOld HG6.out hb7) hC)
 have HS8:=Hq (show StoreR _ ⟨zl2,zp2,zf2,⟨L3,lf3,dn3⟩,⟨fr3,ln3,en3,sf3,tl3⟩,hd2,ts2,nx2⟩ ⟨A3,c3,FA2,fn2,fc2,TA2,tc2⟩from⟨hd7.below hC,(ht7.elim (fun e=>by rw[e];exact HS6.out.dt.below hb7) (fun e=>e.mono (Nat.zero_le _))).below hC,(HS6.out.tx.below hb7).below hC,(HS6.out.tt.below hb7).below hC⟩)
 obtain⟨W8,hW8⟩:=ex ((((w7.alloc (.cells #["s",(),false] 29)).alloc (.cells #[(),(),(),(),""] 31)).setRow w7.heap.size #[.slice A3 L3.length c3,lf3,dn3]).setRow (w7.heap.size+1) #[fr3,ln3,en3,sf3,tl3])
 rw[← hW8]at HD8 HL8 H8 HS8 HG8
 rw[← hW8,← hbd]
 clear hW8 hbd hC HD0 HL0 hd7 ht7 hb7 H6 HS6 HFF HG6
 go_upto_region 6 with(first
  |(with_reducible refine lL HD8.out Tryz.underlying29 ?_)
  |(with_reducible refine lU #[.slice A3 L3.length c3,lf3,dn3] #[zl2,zp2,zf2,.slice A3 L3.length c3,lf3,dn3,fr2,ln2,en2,sf2,tl2,.slice FA2 fn2 fc2,hd2,.slice TA2 ts2.length tc2,nx2] HG8.out ?_))
 have H9:=Hq (H8.out.under (M:=bt) (by show w.heap.size+2≤bt;exact hbt) (below_setRow (Below.refl bt W8) (Nat.le_refl bt) #[zl2,zp2,zf2,.slice A3 L3.length c3,lf3,dn3,fr2,ln2,en2,sf2,tl2,.slice FA2 fn2 fc2,hd2,.slice TA2 ts2.length tc2,nx2]))
 have HG9:=Hq (show(W8.setRow bt #[zl2,zp2,zf2,.slice A3 L3.length c3,lf3,dn3,fr2,ln2,en2,sf2,tl2,.slice FA2 fn2 fc2,hd2,.slice TA2 ts2.length tc2,nx2]).heap[bt]? =some (.cells #[zl2,zp2,zf2,.slice A3 L3.length c3,lf3,dn3,fr2,ln2,en2,sf2,tl2,.slice FA2 fn2 fc2,hd2,.slice TA2 ts2.length tc2,nx2] 37 (0,0))from setRow_heap _ _ _ _ _ _ HG8.out)
 have HS9:=Hq (HS8.out.other HG8.out (by decide) (by decide) #[zl2,zp2,zf2,.slice A3 L3.length c3,lf3,dn3,fr2,ln2,en2,sf2,tl2,.slice FA2 fn2 fc2,hd2,.slice TA2 ts2.length tc2,nx2])
 have HL9:=Hq ((heap_setRow_other W8 bt #[zl2,zp2,zf2,.slice A3 L3.length c3,lf3,dn3,fr2,ln2,en2,sf2,tl2,.slice FA2 fn2 fc2,hd2,.slice TA2 ts2.length tc2,nx2] (bd+1) (by omega)).trans HL8.out)
 obtain⟨W9,hW9⟩:=ex (W8.setRow bt #[zl2,zp2,zf2,.slice A3 L3.length c3,lf3,dn3,fr2,ln2,en2,sf2,tl2,.slice FA2 fn2 fc2,hd2,.slice TA2 ts2.length tc2,nx2])
 rw[← hW9]at H9 HG9 HS9 HL9
 rw[← hW9]
 clear hW9 H8 HG8 HS8 HL8 HD8
 go_upto_region 7 with(first
  |(with_reducible refine lL HL9.out Tryz.underlying31 ?_)
  |(with_reducible refine lU #[fr3,ln3,en3,sf3,tl3] #[zl2,zp2,zf2,.slice A3 L3.length c3,lf3,dn3,fr3,ln3,en3,sf3,tl3,.slice FA2 fn2 fc2,hd2,.slice TA2 ts2.length tc2,nx2] HG9.out ?_))
 have H10:=Hq (H9.out.under (M:=bt) (by show w.heap.size+2≤bt;exact hbt) (below_setRow (Below.refl bt W9) (Nat.le_refl bt) #[zl2,zp2,zf2,.slice A3 L3.length c3,lf3,dn3,fr3,ln3,en3,sf3,tl3,.slice FA2 fn2 fc2,hd2,.slice TA2 ts2.length tc2,nx2]))
 have HG10:=Hq (show(W9.setRow bt #[zl2,zp2,zf2,.slice A3 L3.length c3,lf3,dn3,fr3,ln3,en3,sf3,tl3,.slice FA2 fn2 fc2,hd2,.slice TA2 ts2.length tc2,nx2]).heap[bt]? =some (.cells #[zl2,zp2,zf2,.slice A3 L3.length c3,lf3,dn3,fr3,ln3,en3,sf3,tl3,.slice FA2 fn2 fc2,hd2,.slice TA2 ts2.length tc2,nx2] 37 (0,0))from setRow_heap _ _ _ _ _ _ HG9.out)
 have HS10:=Hq (HS9.out.other HG9.out (by decide) (by decide) #[zl2,zp2,zf2,.slice A3 L3.length c3,lf3,dn3,fr3,ln3,en3,sf3,tl3,.slice FA2 fn2 fc2,hd2,.slice TA2 ts2.length tc2,nx2])
 obtain⟨W10,hW10⟩:=ex (W9.setRow bt #[zl2,zp2,zf2,.slice A3 L3.length c3,lf3,dn3,fr3,ln3,en3,sf3,tl3,.slice FA2 fn2 fc2,hd2,.slice TA2 ts2.length tc2,nx2])
 rw[← hW10]at H10 HG10 HS10
 rw[← hW10]
 clear hW10 H9 HG9 HS9 HL9
 by_cases he3:e3=0
 rotate_left
 ·have hx:=d2 he3
  (try simp only at hx)
  have HMF:=Hq (fun(p':SP) w' hs hf hb=>HM.out _ p' w' hx hs hf hb)
  have he1:(e3==0)=false:=by simpa using he3
  have he2:(e3 != 0)=true:=by simpa using he3
  clear d2 d3 HM he3 hx HB2 HFD
  dsimp only[storeV]at HMF
  go_wp2_with (first
   |(with_reducible refine lL HG10.out Tryz.underlying37 ?_)
   |(with_reducible refine lS #[zl2,zp2,zf2,.slice A3 L3.length c3,lf3,dn3,fr3,ln3,en3,sf3,tl3,.slice FA2 fn2 fc2,hd2,.slice TA2 ts2.length tc2,nx2] H10.out.get1 ?_))
  refine bodyPost_ret (v:=.tuple #[.agg #[zl2,zp2,zf2,.slice A3 L3.length c3,lf3,dn3,fr3,ln3,en3,sf3,tl3,.slice FA2 fn2 fc2,hd2,.slice TA2 ts2.length tc2,nx2],e3]) (results_cell2 rfl _ _ rfl (load_whole (setRow_heap _ _ _ _ _ _ H10.out.get1) Tryz.underlying37 Kr Kr) rfl) rfl ?_
  exact HMF.out ⟨A3,c3,FA2,fn2,fc2,TA2,tc2⟩ _ (HS10.out.other H10.out.get1 (by decide) (by decide) _) HF5.out ((H10.out.row 1 _ _ rfl).below)
 subst he3
 have hx:=d3 rfl
 clear d2 d3
 obtain⟨sF,hsF⟩:=ex (⟨zl2,zp2,zf2,⟨L3,lf3,dn3⟩,⟨fr3,ln3,en3,sf3,tl3⟩,hd2,ts2,nx2⟩:Tx.St)
 have HS9':=HS10.out
 rw[← hsF]at hx HS9'
 have hBF:=HB2.out
 rw[← hsF]at hBF
 have hlF:sF.txns.length≤800000:=by rw[hsF];show ts2.length≤_;omega
 have hfF:∃ k,Tx.placeT sF.txns n=some k:=by rw[hsF];exact HFD.out
 have k1:= @Tx.close_yes sF n hfF
 have k2:= @Tx.close_full sF n hfF
 have hEN:=fun W (hw:Below W10.heap.size W10 W)=>rend_any sF ⟨A3,c3,FA2,fn2,fc2,TA2,tc2⟩ hBF hlF n W (HS9'.below hw)
 have hNT:=fun W (hw:Below W10.heap.size W10 W)=>rnote_any sF.txns (by omega) TA2 tc2 (Rc.bare 7 0 0 n) none none 0 0 0 0 W (HS9'.tx.below hw)
 generalize Tx.endS sF n=y5 at k1 k2 hEN
 have hz:sF.txns=ts2:=by rw[hsF]
 rw[hz]at hNT
 rw[hsF]at hEN
 clear hBF hlF HS9' hz hfF HFD
 obtain⟨⟨zl5,zp5,zf5,⟨L5,lf5,dn5⟩,⟨fr5,ln5,en5,sf5,tl5⟩,hd5,ts5,nx5⟩,e5⟩:=y5
 dsimp only[storeV]at hEN
 dsimp only[recV,recA,Rc.bare,Rc.noOp,Rc.noKey]at hNT
 simp only at k1 k2
 have HEN:=Hq hEN
 have HNT:=Hq hNT
 clear hEN hNT
 have B10:=Below.refl W10.heap.size W10
 go_upto_region 10 with(first
  |(with_reducible refine lL HG10.out Tryz.underlying37 ?_)
  |(go_at_call 64;(with_reducible refine(HEN.out _ B10).mono ?_);rintro e w11 ⟨p',he,hs11,hf11,hb11⟩;have HF11:=Hq hf11;clear hf11;obtain⟨A5,c5,FA5,fn5,fc5,TA5,tc5⟩:=p';(try dsimp only[storeV]at he);subst he)
  |(with_reducible refine sN #[zl5,zp5,zf5,.slice A5 L5.length c5,lf5,dn5,fr5,ln5,en5,sf5,tl5,.slice FA5 fn5 fc5,hd5,.slice TA5 ts5.length tc5,nx5] ?_))
 have hb11':=pastAlloc (o:=.cells #[zl5,zp5,zf5,.slice A5 L5.length c5,lf5,dn5,fr5,ln5,en5,sf5,tl5,.slice FA5 fn5 fc5,hd5,.slice TA5 ts5.length tc5,nx5] 37) hb11
 have HG:=Hq (heap_alloc_new w11 (.cells #[zl5,zp5,zf5,.slice A5 L5.length c5,lf5,dn5,fr5,ln5,en5,sf5,tl5,.slice FA5 fn5 fc5,hd5,.slice TA5 ts5.length tc5,nx5] 37))
 have HT11:=Hq (blkOld HG10.out hb11')
 have H11:=Hq (H10.out.step hb11')
 have B11:=Hq hb11'
 have HS11:=Hq (hs11.below (allocB w11 (.cells #[zl5,zp5,zf5,.slice A5 L5.length c5,lf5,dn5,fr5,ln5,en5,sf5,tl5,.slice FA5 fn5 fc5,hd5,.slice TA5 ts5.length tc5,nx5] 37)))
 obtain⟨bs,hbs⟩:=ex w11.heap.size
 obtain⟨W11,hW11⟩:=ex (w11.alloc (.cells #[zl5,zp5,zf5,.slice A5 L5.length c5,lf5,dn5,fr5,ln5,en5,sf5,tl5,.slice FA5 fn5 fc5,hd5,.slice TA5 ts5.length tc5,nx5] 37))
 rw[← hbs]at HG
 rw[← hW11]at HG HT11 H11 B11 HS11
 rw[← hW11,← hbs]
 clear hbs hW11 hb11 hb11' hs11 HEN H10 HG10 B10
 by_cases he5:e5=0
 ·subst he5
  have hx2:=hx.trans (k1 rfl)
  have HMF:=Hq (fun(p':SP) w' hs hf hb=>HM.out _ p' w' hx2 hs hf hb)
  clear k1 k2 HM hx hx2 HNT
  dsimp only[storeV]at HMF
  go_wp2_with (first
   |(with_reducible refine lL HG.out Tryz.underlying37 ?_)
   |(with_reducible refine lS #[zl5,zp5,zf5,.slice A5 L5.length c5,lf5,dn5,fr5,ln5,en5,sf5,tl5,.slice FA5 fn5 fc5,hd5,.slice TA5 ts5.length tc5,nx5] H11.out.get1 ?_))
  refine bodyPost_ret (v:=.tuple #[.agg #[zl5,zp5,zf5,.slice A5 L5.length c5,lf5,dn5,fr5,ln5,en5,sf5,tl5,.slice FA5 fn5 fc5,hd5,.slice TA5 ts5.length tc5,nx5],()]) (results_cell2 rfl _ _ rfl (load_whole (setRow_heap _ _ _ _ _ _ H11.out.get1) Tryz.underlying37 Kr Kr) rfl) rfl ?_
  exact HMF.out ⟨A5,c5,FA5,fn5,fc5,TA5,tc5⟩ _ (HS11.out.other H11.out.get1 (by decide) (by decide) _) ⟨HF11.out.1.trans HF5.out.1,HF11.out.2.1.trans HF5.out.2.1,HF11.out.2.2.trans HF5.out.2.2⟩ ((H11.out.row 1 _ _ rfl).below)
 ·have hx2:=hx.trans (k2 he5)
  rw[hsF]at hx2
  (try simp only at hx2)
  have he1:(e5==0)=false:=by simpa using he5
  have he2:(e5 != 0)=true:=by simpa using he5
  have HMF:=Hq (fun(p':SP) w' hs hf hb=>HM.out _ p' w' hx2 hs hf hb)
  clear k1 k2 HM hx hx2 he5 HS11 HG
  dsimp only[storeV,Rc.bare,Rc.noOp,Rc.noKey]at HMF
  generalize Tx.noteT ts2 ⟨0,0,n,7,0,0,0,⟨0,0,⟨#[]⟩,⟨#[]⟩⟩,0,0,⟨⟨#[]⟩,0,0⟩,[],[]⟩=ts6 at HMF HNT
  have hc11:=blkCell HT11.out
  go_upto_region 12 with(first
   |(go_at_call 65;(with_reducible refine(HNT.out _ B11.out).mono ?_);rintro e w12 ⟨A',c',rfl,hr12,ht12,hb12⟩;have H12:=Hq (H11.out.step hb12);have HT12:=Hq (blkOld HT11.out hb12);have B12:=Hq (B11.out.trans (hb12.mono B11.out.size));have hc12:=blkCell HT12.out;have hz12:=blkFrozen HT12.out;clear hc11))
  have HS12:=Hq (show StoreR w12 ⟨zl2,zp2,zf2,⟨L3,lf3,dn3⟩,⟨fr3,ln3,en3,sf3,tl3⟩,hd2,ts6,nx2⟩ ⟨A3,c3,FA2,fn2,fc2,A',c'⟩from⟨HS10.out.dk.below B12.out,HS10.out.dt.below B12.out,hr12,ht12⟩)
  have HS13:=Hq (HS12.out.set HT12.out (by decide) (by decide) 13 (.slice A' ts6.length c'))
  have HT13:=Hq (show(w12.setCell ⟨bt,13,none⟩ (.slice A' ts6.length c')).heap[bt]? =some (.cells #[zl2,zp2,zf2,.slice A3 L3.length c3,lf3,dn3,fr3,ln3,en3,sf3,tl3,.slice FA2 fn2 fc2,hd2,.slice A' ts6.length c',nx2] 37 (0,0))from by have h:=blkSet 13 HT12.out (.slice A' ts6.length c');simpa using h)
  have H13:=Hq (H12.out.under (M:=bt) (by show w.heap.size+2≤bt;exact hbt) ((Below.refl bt w12).setCell (p:=⟨bt,13,none⟩) (Nat.le_refl bt) (.slice A' ts6.length c')))
  obtain⟨W13,hW13⟩:=ex (w12.setCell ⟨bt,13,none⟩ (.slice A' ts6.length c'))
  rw[← hW13]at H13 HS13 HT13
  rw[← hW13]
  clear hW13 hc12 hz12 H12 HS12 hr12 ht12 hb12 H11 HNT HT12
  go_wp2_with (first
   |(with_reducible refine lL HT13.out Tryz.underlying37 ?_)
   |(with_reducible refine lS #[zl2,zp2,zf2,.slice A3 L3.length c3,lf3,dn3,fr3,ln3,en3,sf3,tl3,.slice FA2 fn2 fc2,hd2,.slice A' ts6.length c',nx2] H13.out.get1 ?_))
  refine bodyPost_ret (v:=.tuple #[.agg #[zl2,zp2,zf2,.slice A3 L3.length c3,lf3,dn3,fr3,ln3,en3,sf3,tl3,.slice FA2 fn2 fc2,hd2,.slice A' ts6.length c',nx2],()]) (results_cell2 rfl _ _ rfl (load_whole (setRow_heap _ _ _ _ _ _ H13.out.get1) Tryz.underlying37 Kr Kr) rfl) rfl ?_
  exact HMF.out ⟨A3,c3,FA2,fn2,fc2,A',c'⟩ _ (HS13.out.other H13.out.get1 (by decide) (by decide) _) HF5.out ((H13.out.row 1 _ _ rfl).below)
end Go.Proofs.YtilakddepaplhaaGreat
