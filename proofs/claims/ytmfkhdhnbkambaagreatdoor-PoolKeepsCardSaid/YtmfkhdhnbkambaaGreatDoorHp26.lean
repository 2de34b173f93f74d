import Derived.Test.YtmfkhdhnbkambaaGreatDoorHp00
import Derived.Test.YtmfkhdhnbkambaaGreatDoorHp10
import Derived.Test.YtmfkhdhnbkambaaGreatDoorHp25
import Derived.Deep.QuietTactic
import Derived.BigQuiet
set_option maxRecDepth 100000
set_option maxHeartbeats 16000000
set_option linter.unusedSimpArgs false
namespace Go.Proofs.YtmfkhdhnbkambaaGreatDoor
open Go.RowKit
def wasO (p:ByteArray)(o:Cop):ByteArray:=Pg.slotAt (leafP p).recs o.slot
def doneO (p:ByteArray)(o:Cop):ByteArray×Bool:=
 if o.kind=1 then((putO p o.slot o.new).1,decide ((putO p o.slot o.new).2=0)&&decide (o.old.size=0))
 else if o.kind=2 then((cutO p o.slot).1,((decide ((cutO p o.slot).2=0)&&decide (o.new.size=0))&& !decide ((wasO p o).size=0))&&decide (wasO p o=o.old))
 else if o.kind=3 then((setO p o.slot o.new).1,(decide ((setO p o.slot o.new).2=0)&& !decide ((wasO p o).size=0))&&decide (wasO p o=o.old))
 else if o.kind=4 then((addO p o.slot o.new).1,decide ((addO p o.slot o.new).2=0)&&decide (o.old.size=0))
 else if o.kind=5 then((delO p o.slot).1,((decide ((delO p o.slot).2=0)&&decide (o.new.size=0))&& !decide ((wasO p o).size=0))&&decide (wasO p o=o.old))
 else if o.kind=6 then(linkB p (NumPlain.parseN o.new.data.toList).1,(((NumPlain.parseN o.new.data.toList).2&& !decide ((linkB p (NumPlain.parseN o.new.data.toList).1).size=0))&&decide (o.slot=0))&&decide (o.old=itoaB ((leafP p).link:Nat)))
 else if o.kind=7 then(lsnB o.new ((leafP p).lsn:Nat),((!decide ((lsnB o.new ((leafP p).lsn:Nat)).size=0)&&decide (o.slot=0))&&decide (o.new=lsnB o.new 0))&&decide (o.old=lsnB p 0))
 else noPage
theorem oldIs_was (p:ByteArray)(o:Cop):oldIs p o=(!decide ((wasO p o).size=0)&&decide (wasO p o=o.old)):=by
 unfold oldIs wasO
 rw[show decide (o.old=Pg.slotAt (leafP p).recs o.slot)=decide (Pg.slotAt (leafP p).recs o.slot=o.old)from by simp only[eq_comm]]
theorem itoaB_eq {n:Int}{s:ByteArray}:itoaB n=s↔Lib.itoa n=s.data.toList:=by
 unfold itoaB
 constructor
 ·intro h;rw[← h]
 ·intro h;rw[h]
theorem done_link (p:ByteArray)(o:Cop):((((NumPlain.parseN o.new.data.toList).2&& !decide ((linkB p (NumPlain.parseN o.new.data.toList).1).size=0))&&decide (o.slot=0))&&decide (o.old=itoaB ((leafP p).link:Nat)))=(linkedO p o).2∧((linkedO p o).2=true→linkB p (NumPlain.parseN o.new.data.toList).1=(linkedO p o).1):=by
 cases hb:(linkedO p o).2 with
 |true=>
  unfold linkedO at hb ⊢
  split at hb
  ·rename_i n hn
   split at hb
   ·rename_i hc
    obtain⟨c1,c2,c3⟩:=hc
    have hz:¬ (linkB p n).size=0:=by simpa using hb
    obtain⟨_,n0,n1⟩:=size_ne_link hz
    have hin:NumPlain.inN n=true:=NumPlain.inN_of (by omega) (by omega)
    have hp:NumPlain.parseN o.new.data.toList=(n,true):=by rw[← itoaB_eq.1 c1];exact NumPlain.parseN_itoa hin
    rw[hp]
    simp only[c1,c2,c3,and_self,if_true]
    simp[hz]
   ·cases hb
  ·cases hb
 |false=>
  refine⟨?_,fun h=>by cases h⟩
  cases hd:((((NumPlain.parseN o.new.data.toList).2&& !decide ((linkB p (NumPlain.parseN o.new.data.toList).1).size=0))&&decide (o.slot=0))&&decide (o.old=itoaB ((leafP p).link:Nat)))with
  |false=>rfl
  |true=>
   simp only[Bool.and_eq_true,decide_eq_true_eq,Bool.not_eq_true',decide_eq_false_iff_not]at hd
   obtain⟨⟨⟨d1,d2⟩,d3⟩,d4⟩:=hd
   obtain⟨hin,hit⟩:=NumPlain.parseN_snd d1
   have hat:=NumPlain.atoiAll_itoa hin
   rw[hit]at hat
   have hl:linkedO p o=(linkB p (NumPlain.parseN o.new.data.toList).1,!decide ((linkB p (NumPlain.parseN o.new.data.toList).1).size=0)):=by
    unfold linkedO
    rw[hat]
    exact if_pos ⟨itoaB_eq.2 hit,d4,d3⟩
   rw[hl]at hb
   simp[d2]at hb
theorem done_whole (p:ByteArray)(o:Cop):(((!decide ((lsnB o.new ((leafP p).lsn:Nat)).size=0)&&decide (o.slot=0))&&decide (o.new=lsnB o.new 0))&&decide (o.old=lsnB p 0))=(wholeO p o).2∧((wholeO p o).2=true→lsnB o.new ((leafP p).lsn:Nat)=(wholeO p o).1):=by
 unfold wholeO
 by_cases h:o.slot=0∧o.old=lsnB p 0∧¬ o.new.size=0∧lsnB o.new 0=o.new
 ·rw[if_pos h]
  obtain⟨h1,h2,h3,h4⟩:=h
  refine⟨?_,fun _=>rfl⟩
  have h5:decide (o.new=lsnB o.new 0)=true:=decide_eq_true h4.symm
  rw[h5,decide_eq_true h1,decide_eq_true h2]
  simp
 ·rw[if_neg h]
  refine⟨?_,fun h=>by cases h⟩
  show _=false
  cases hd:(((!decide ((lsnB o.new ((leafP p).lsn:Nat)).size=0)&&decide (o.slot=0))&&decide (o.new=lsnB o.new 0))&&decide (o.old=lsnB p 0))with
  |false=>rfl
  |true=>
   simp only[Bool.and_eq_true,decide_eq_true_eq,Bool.not_eq_true',decide_eq_false_iff_not]at hd
   obtain⟨⟨⟨d1,d2⟩,d3⟩,d4⟩:=hd
   obtain⟨hp,_,_⟩:=size_ne d1
   have hs:=(lsn_page hp (l:=0) (by omega)).2.2
   refine absurd ⟨d2,d4,?_,d3.symm⟩ h
   intro hz
   have hs2:(lsnB o.new 0).size=512:=hs
   rw[← d3,hz]at hs2
   omega
theorem done_made (p:ByteArray)(o:Cop):(doneO p o).2=(madeO p o).2∧((madeO p o).2=true→(doneO p o).1=(madeO p o).1):=by
 unfold doneO madeO
 by_cases h1:o.kind=1
 ·rw[if_pos h1,if_pos h1]
  by_cases h:o.old.size=0
  ·rw[if_pos h];simp[okB,h]
  ·rw[if_neg h];simp[noPage,h]
 rw[if_neg h1,if_neg h1]
 by_cases h2:o.kind=2
 ·rw[if_pos h2,if_pos h2,oldIs_was]
  by_cases ha:(wasO p o).size=0<;>by_cases hb:wasO p o=o.old<;>by_cases hc:o.new.size=0<;>simp[okB,noPage,ha,hb,hc]<;>simp_all
 rw[if_neg h2,if_neg h2]
 by_cases h3:o.kind=3
 ·rw[if_pos h3,if_pos h3,oldIs_was]
  by_cases ha:(wasO p o).size=0<;>by_cases hb:wasO p o=o.old<;>simp[okB,noPage,ha,hb]<;>simp_all
 rw[if_neg h3,if_neg h3]
 by_cases h4:o.kind=4
 ·rw[if_pos h4,if_pos h4]
  by_cases h:o.old.size=0
  ·rw[if_pos h];simp[okB,h]
  ·rw[if_neg h];simp[noPage,h]
 rw[if_neg h4,if_neg h4]
 by_cases h5:o.kind=5
 ·rw[if_pos h5,if_pos h5,oldIs_was]
  by_cases ha:(wasO p o).size=0<;>by_cases hb:wasO p o=o.old<;>by_cases hc:o.new.size=0<;>simp[okB,noPage,ha,hb,hc]<;>simp_all
 rw[if_neg h5,if_neg h5]
 by_cases h6:o.kind=6
 ·rw[if_pos h6,if_pos h6];exact done_link p o
 rw[if_neg h6,if_neg h6]
 by_cases h7:o.kind=7
 ·rw[if_pos h7,if_pos h7];exact done_whole p o
 rw[if_neg h7,if_neg h7]
 exact⟨rfl,fun h=>by cases h⟩
theorem done_right (p:ByteArray)(o:Cop):((doneO p o).2&&isPg p)=rightO p o:=by
 unfold rightO
 rw[(done_made p o).1,Bool.and_comm]
theorem done_do {p:ByteArray}{o:Cop}(h:rightO p o=true):(doneO p o).1=(madeO p o).1:=by
 unfold rightO at h
 rw[Bool.and_eq_true]at h
 exact(done_made p o).2 h.2
open NumPlain
theorem rin_any (a:Int)(w:World):
 Calls Tryz.prog 142 #[a] w fun e w'=>e= .returned (.bool (inN a))∧w=w':=by
 go_enter Tryz.func142,Tryz.ntmps142
 go_wp2
 ·go_ret
  rename_i h
  exact⟨by simp[inN,h],rfl⟩
 ·go_ret
  rename_i h
  exact⟨by simp[inN];omega,rfl⟩
abbrev twoN (r:Int×Bool):Ending:=.returned (.tuple #[r.1,r.2])
theorem bytesEqN {s:ByteArray}{l:List UInt8}(h:l=s.data.toList):(⟨l.toArray⟩:ByteArray)=s:=by
 subst h;cases s;simp
theorem bytes_cat (l r:List UInt8):(⟨l.toArray⟩:ByteArray)++⟨r.toArray⟩=⟨(l++r).toArray⟩:=by
 apply ByteArray.ext
 simp
theorem rtext_small (n:Int)(w:World)(hs:n.natAbs<10):
 Calls Tryz.prog 97 #[n] w fun e w'=>e= .returned (.string ⟨(Lib.itoa n).toArray⟩)∧∃ m,w'=w.drewN m:=by
 by_cases hn:n<0
 ·obtain⟨d,rfl⟩:∃ d:Nat,n= -(d:Int):=⟨n.natAbs,by omega⟩
  go_enter Tryz.func97,Tryz.ntmps97
  go_wp2_with fail
  go_ret
  exact⟨congrArg (fun s=>Ending.returned (Value.string s)) (by
   rw[itoa_minus (by omega) (by omega)]
   rw[Nat.add_comm 1 d]
   show(⟨#[45]⟩:ByteArray)++digits.extract d (d+1)=_
   rw[digits_piece d (by omega)];rfl),0,rfl⟩
 ·obtain⟨d,rfl⟩:∃ d:Nat,n=(d:Int):=⟨n.natAbs,by omega⟩
  go_enter Tryz.func97,Tryz.ntmps97
  go_wp2_with fail
  go_ret
  exact⟨congrArg (fun s=>Ending.returned (Value.string s)) (by
   rw[itoa_one (by omega)]
   exact digits_piece d (by omega)),0,rfl⟩
theorem rtext_pos (n q:Int)(r:Nat)(w:World)(h1:10≤n)(h2:n≤9223372036854775807)(hr10:r<10)(hm:n%10=(r:Int))(hq:n/10=q)
 (hc:∀ W,Calls Tryz.prog 97 #[q] W fun e w'=>e= .returned (.string ⟨(Lib.itoa q).toArray⟩)∧∃ m,w'=W.drewN m)
 (hf:(⟨(Lib.itoa q).toArray⟩:ByteArray)++digits.extract r (r+1)=⟨(Lib.itoa n).toArray⟩):
 Calls Tryz.prog 97 #[n] w fun e w'=>e= .returned (.string ⟨(Lib.itoa n).toArray⟩)∧∃ m,w'=w.drewN m:=by
 have hw:IntKind.i64.wrap (n.tdiv 10)=q:=by
  rw[Int.tdiv_eq_ediv_of_nonneg (by omega),hq]
  exact IntWalk.i64_in _ (by omega)
 have hw2:IntKind.i64.wrap ((r:Int)+1)=(r:Int)+1:=IntWalk.i64_in _ (by omega)
 have hw3:0≤(r:Int)+1:=by omega
 have hw4:((r:Int)+1).toNat=r+1:=by omega
 have hw5:(r:Int)≤(r:Int)+1:=by omega
 have hw6:(r:Int)+1≤10:=by omega
 have hql:(Lib.itoa q).length≤21:=Lib.itoa_length_le q (by omega) (by omega)
 obtain⟨t,ht⟩:=ex (⟨(Lib.itoa q).toArray⟩:ByteArray)
 have hts:t.size=(Lib.itoa q).length:=by rw[ht];rfl
 have hadd:∀ W:World,(Op.stringOp .add t ((⟨#[48,49,50,51,52,53,54,55,56,57]⟩:ByteArray).extract r (r+1))).run Tryz.prog W= .ok (.string (t++(⟨#[48,49,50,51,52,53,54,55,56,57]⟩:ByteArray).extract r (r+1))) W:=by
  intro W
  refine run_string_add_sum W _ _ ?_
  rw[hts,ByteArray.size_extract]
  omega
 rw[← ht]at hc hf
 have HC:=Hq hc
 have HF:=Hq hf
 clear hc hf ht hts hql
 go_enter Tryz.func97,Tryz.ntmps97
 go_wp2_with fail
 go_quiet ((go_at_call 97;exact Calls.quiet_of (HC.out _)))
 clear hw hw2 hw3 hw4 hw5 hw6 hadd
 go_wp2_with fail
 go_ret
 exact⟨congrArg (fun s=>Ending.returned (Value.string s)) HF.out,_,rfl⟩
theorem rtext_neg (n q:Int)(r:Nat)(w:World)(h1:n≤-10)(h2: -9223372036854775808≤n)(hr10:r<10)(hr0:0<r)(hm:n.tmod 10= -(r:Int))(hq:n.tdiv 10=q)(hqb: -922337203685477580≤q∧q<0)
 (hc:∀ W,Calls Tryz.prog 97 #[q] W fun e w'=>e= .returned (.string ⟨(Lib.itoa q).toArray⟩)∧∃ m,w'=W.drewN m)
 (hf:(⟨(Lib.itoa q).toArray⟩:ByteArray)++digits.extract r (r+1)=⟨(Lib.itoa n).toArray⟩):
 Calls Tryz.prog 97 #[n] w fun e w'=>e= .returned (.string ⟨(Lib.itoa n).toArray⟩)∧∃ m,w'=w.drewN m:=by
 have hw:IntKind.i64.wrap (n.tdiv 10)=q:=by
  rw[hq]
  exact IntWalk.i64_in _ (by omega)
 have hw2:IntKind.i64.wrap ((r:Int)+1)=(r:Int)+1:=IntWalk.i64_in _ (by omega)
 have hw3:0≤(r:Int)+1:=by omega
 have hw4:((r:Int)+1).toNat=r+1:=by omega
 have hw5:(r:Int)≤(r:Int)+1:=by omega
 have hw6:(r:Int)+1≤10:=by omega
 have hql:(Lib.itoa q).length≤21:=Lib.itoa_length_le q (by omega) (by omega)
 obtain⟨t,ht⟩:=ex (⟨(Lib.itoa q).toArray⟩:ByteArray)
 have hts:t.size=(Lib.itoa q).length:=by rw[ht];rfl
 have hadd:∀ W:World,(Op.stringOp .add t ((⟨#[48,49,50,51,52,53,54,55,56,57]⟩:ByteArray).extract r (r+1))).run Tryz.prog W= .ok (.string (t++(⟨#[48,49,50,51,52,53,54,55,56,57]⟩:ByteArray).extract r (r+1))) W:=by
  intro W
  refine run_string_add_sum W _ _ ?_
  rw[hts,ByteArray.size_extract]
  omega
 rw[← ht]at hc hf
 have HC:=Hq hc
 have HF:=Hq hf
 clear hc hf ht hts hql
 go_enter Tryz.func97,Tryz.ntmps97
 go_wp2_with fail
 go_quiet ((go_at_call 97;exact Calls.quiet_of (HC.out _)))
 clear hw hw2 hw3 hw4 hw5 hw6 hadd
 go_wp2_with fail
 go_ret
 exact⟨congrArg (fun s=>Ending.returned (Value.string s)) HF.out,_,rfl⟩
theorem rtext_zero (n q:Int)(w:World)(h1:n≤-10)(h2: -9223372036854775808≤n)(hm:n.tmod 10=0)(hq:n.tdiv 10=q)(hqb: -922337203685477580≤q∧q<0)
 (hc:∀ W,Calls Tryz.prog 97 #[q] W fun e w'=>e= .returned (.string ⟨(Lib.itoa q).toArray⟩)∧∃ m,w'=W.drewN m)
 (hf:(⟨(Lib.itoa q).toArray⟩:ByteArray)++digits.extract 0 1=⟨(Lib.itoa n).toArray⟩):
 Calls Tryz.prog 97 #[n] w fun e w'=>e= .returned (.string ⟨(Lib.itoa n).toArray⟩)∧∃ m,w'=w.drewN m:=by
 have hw:IntKind.i64.wrap (n.tdiv 10)=q:=by
  rw[hq]
  exact IntWalk.i64_in _ (by omega)
 have hql:(Lib.itoa q).length≤21:=Lib.itoa_length_le q (by omega) (by omega)
 obtain⟨t,ht⟩:=ex (⟨(Lib.itoa q).toArray⟩:ByteArray)
 have hts:t.size=(Lib.itoa q).length:=by rw[ht];rfl
 have hadd:∀ W:World,(Op.stringOp .add t ((⟨#[48,49,50,51,52,53,54,55,56,57]⟩:ByteArray).extract 0 1)).run Tryz.prog W= .ok (.string (t++(⟨#[48,49,50,51,52,53,54,55,56,57]⟩:ByteArray).extract 0 1)) W:=by
  intro W
  refine run_string_add_sum W _ _ ?_
  rw[hts,ByteArray.size_extract]
  omega
 rw[← ht]at hc hf
 have HC:=Hq hc
 have HF:=Hq hf
 clear hc hf ht hts hql
 go_enter Tryz.func97,Tryz.ntmps97
 go_wp2_with fail
 go_quiet ((go_at_call 97;exact Calls.quiet_of (HC.out _)))
 clear hw hadd
 go_wp2_with fail
 go_ret
 exact⟨congrArg (fun s=>Ending.returned (Value.string s)) HF.out,_,rfl⟩
theorem rtext_any (k:Nat):∀ (n:Int) (w:World),n.natAbs≤k→-9223372036854775808≤n→n≤9223372036854775807→
 Calls Tryz.prog 97 #[n] w fun e w'=>e= .returned (.string ⟨(Lib.itoa n).toArray⟩)∧∃ m,w'=w.drewN m:=by
 induction k with
 |zero=>exact fun n w hk _ _=>rtext_small n w (by omega)
 |succ k ih=>
  intro n w hk h0 h1
  by_cases hs:n.natAbs<10
  ·exact rtext_small n w hs
  ·have HS:=itoa_step (n:=n) (by omega)
   have hf:(⟨(Lib.itoa (n.tdiv 10)).toArray⟩:ByteArray)++digits.extract (n.natAbs%10) (n.natAbs%10+1)=⟨(Lib.itoa n).toArray⟩:=by
    rw[HS,digits_piece _ (by omega)]
    exact bytes_cat _ _
   by_cases hn:n<0
   ·obtain⟨e1,e2⟩:=tdiv10_neg hn
    by_cases hz:n.natAbs%10=0
    ·have e3:n.tmod 10=0:=by omega
     rw[hz]at hf
     exact rtext_zero n (n.tdiv 10) w (by omega) h0 e3 rfl (by omega) (fun W=>ih _ W (by omega) (by omega) (by omega)) hf
    ·exact rtext_neg n (n.tdiv 10) (n.natAbs%10) w (by omega) h0 (by omega) (by omega) e2 rfl (by omega) (fun W=>ih _ W (by omega) (by omega) (by omega)) hf
   ·have e1:n/10=n.tdiv 10:=by rw[Int.tdiv_eq_ediv_of_nonneg (by omega)]
    exact rtext_pos n (n.tdiv 10) (n.natAbs%10) w (by omega) h1 (by omega) (by omega) e1 (fun W=>ih _ W (by omega) (by omega) (by omega)) hf
theorem gather_snoc (s:ByteArray)(k:Nat)(h:k<s.size):gather 0 (s.data.toList.take (k+1))=if 48≤(s[k].toNat:Int)∧(s[k].toNat:Int)≤57 then 10*gather 0 (s.data.toList.take k)+s[k].toNat-48 else gather 0 (s.data.toList.take k):=by
 have e:s.data.toList.take (k+1)=s.data.toList.take k++[s[k]]:=by
  rw[List.take_succ_eq_append_getElem (by simpa using h)];rfl
 rw[e,gather_append]
 simp only[gather]
 by_cases hc:48≤s[k].toNat∧s[k].toNat≤57
 ·rw[if_pos hc,if_pos (by omega)]
 ·rw[if_neg hc,if_neg (by omega)]
theorem gather_lt (s:ByteArray)(h17:s.size≤17)(k:Nat):0≤gather 0 (s.data.toList.take k)∧gather 0 (s.data.toList.take k)<100000000000000000:=by
 obtain⟨h1,h2⟩:=gather_bound (s.data.toList.take k) 0 (by omega)
 refine⟨h1,Int.lt_of_lt_of_le h2 ?_⟩
 have hl:(s.data.toList.take k).length≤17:=by
  have:s.data.toList.length=s.size:=by simp
  rw[List.length_take];omega
 have:(10:Int)^(s.data.toList.take k).length≤10^17:=by exact_mod_cast Nat.pow_le_pow_right (n:=10) (by omega) hl
 omega
def closeR (s:ByteArray)(n:Int):Int×Bool:=if inN n&&decide (Lib.itoa n=s.data.toList)then(n,true)else(0,false)
theorem take_all (s:ByteArray):s.data.toList.take s.size=s.data.toList:=List.take_of_length_le (by simp)
theorem signed_first (s:ByteArray)(h:0<s.size):signed s.data.toList=if((s[0].toNat:Int)==45)=true then - gather 0 s.data.toList else gather 0 s.data.toList:=by
 have e:s.data.toList.head? =some s[0]:=by
  rw[List.head?_eq_getElem?,List.getElem?_eq_getElem (by simpa using h)];rfl
 unfold signed
 rw[e]
 by_cases hc:s[0]=45
 ·rw[if_pos (by rw[hc]),if_pos (by rw[hc];rfl)]
 ·rw[if_neg (by simpa using hc),if_neg]
  intro h1
  apply hc
  have h2:(s[0].toNat:Int)=45:=by simpa using h1
  have h3:s[0].toNat=45:=by exact_mod_cast h2
  exact UInt8.toNat_inj.1 h3
theorem signed_none (s:ByteArray)(h:¬ 0<s.size):signed s.data.toList=gather 0 s.data.toList:=by
 have e:s.data.toList=[]:=List.eq_nil_of_length_eq_zero (by have h9:s.data.toList.length=s.size:=(by simp);omega)
 rw[e];rfl
theorem rparse_short (s:ByteArray)(h17:s.size≤17)(w:World):
 Calls Tryz.prog 95 #[s] w fun e w'=>e=twoN (closeR s (signed s.data.toList))∧∃ m,w'=w.drewN m:=by
 go_enter Tryz.func95,Tryz.ntmps95
 go_wp2_with fail
 go_loop [4,5] (fun n i=>∃ k:Nat,k≤s.size∧i= .int .i64 k∧n= .int .i64 (gather 0 (s.data.toList.take k))) (fun _ i=>s.size-(intOf i).toNat)
 case atStart=>exact⟨0,Nat.zero_le _,rfl,rfl⟩
 case round=>
  obtain⟨k,hk,rfl,rfl⟩:=hrel
  obtain⟨g0,g1⟩:=gather_lt s h17 k
  by_cases hlt:k<s.size
  ·have HG:=Hq (gather_snoc s k hlt)
   go_wp2_with fail
   all_goals
    go_round
    case rel=>exact⟨k+1,by omega,by go_num,by rw[HG.out];first|(rw[if_pos (by omega)];done)|(rw[if_pos (by omega)];go_num)|(rw[if_neg (by omega)])⟩
    case measure=>simp[intOf];omega
  ·obtain rfl:k=s.size:=by omega
   have HT:=Hq (take_all s)
   generalize hg:gather 0 (s.data.toList.take s.size)=g at g0 g1 ⊢
   have hg':gather 0 s.data.toList=g:=by rw[← HT.out];exact hg
   obtain⟨v,hv,hcase⟩:∃ v:Int,signed s.data.toList=v∧((0<s.size∧((s[0]?.getD 0).toNat:Int)=45∧v= -g)∨(0<s.size∧((s[0]?.getD 0).toNat:Int)≠45∧v=g)∨(s.size=0∧v=g)):=by
    refine⟨_,rfl,?_⟩
    by_cases hp:0<s.size
    ·rw[signed_first s hp,hg',show s[0]?.getD 0=s[0] by simp[hp]]
     by_cases hc:(s[0].toNat:Int)=45
     ·exact .inl ⟨hp,hc,by rw[if_pos (by simpa using hc)]⟩
     ·exact .inr (.inl ⟨hp,hc,by rw[if_neg (by simpa using hc)]⟩)
    ·exact .inr (.inr ⟨by omega,by rw[signed_none s hp,hg']⟩)
   have HV:=Hq hv
   have vb: -100000000000000000<v∧v<100000000000000000:=by omega
   obtain⟨v0,v1⟩:=vb
   clear hv hg hg' HT
   cases hin:inN v
   ·have HR:=Hq (show closeR s v=(0,false) by simp[closeR,hin])
    have HX:=True.intro
    rcases hcase with⟨hp,hc,rfl⟩|⟨hp,hc,rfl⟩|⟨hp,rfl⟩
    ·have hc':((s[0].toNat:Int)==45)=true:=by simpa[hp]using hc
     clear hc
     go_wp2_with (go_at_call 142;refine(rin_any _ _).mono ?_;rintro e w' ⟨rfl,rfl⟩)
     go_ret2
     exact⟨by rw[HV.out,HR.out];rfl,0,rfl⟩
    ·have hc':((s[0].toNat:Int)==45)=false:=by simpa[hp]using hc
     clear hc
     go_wp2_with (go_at_call 142;refine(rin_any _ _).mono ?_;rintro e w' ⟨rfl,rfl⟩)
     go_ret2
     exact⟨by rw[HV.out,HR.out];rfl,0,rfl⟩
    ·go_wp2_with (go_at_call 142;refine(rin_any _ _).mono ?_;rintro e w' ⟨rfl,rfl⟩)
     go_ret2
     exact⟨by rw[HV.out,HR.out];rfl,0,rfl⟩
   ·by_cases heq:Lib.itoa v=s.data.toList
    ·have HR:=Hq (show closeR s v=(v,true) by simp[closeR,hin,heq])
     have HX:=Hq (show ∀ W,Calls Tryz.prog 97 #[v] W fun e w'=>e= .returned (.string s)∧∃ m,w'=W.drewN m from fun W=>by
      have:=rtext_any v.natAbs v W (Nat.le_refl _) (by omega) (by omega)
      rwa[bytesEqN heq]at this)
     clear heq
     rcases hcase with⟨hp,hc,rfl⟩|⟨hp,hc,rfl⟩|⟨hp,rfl⟩
     ·have hc':((s[0].toNat:Int)==45)=true:=by simpa[hp]using hc
      clear hc
      go_wp2_with (first|(go_at_call 142;refine(rin_any _ _).mono ?_;rintro e w' ⟨rfl,rfl⟩)|(go_at_call 97;refine(HX.out _).mono ?_;rintro e w' ⟨rfl,m,rfl⟩))
      go_ret2
      exact⟨by rw[HV.out,HR.out];rfl,_,rfl⟩
     ·have hc':((s[0].toNat:Int)==45)=false:=by simpa[hp]using hc
      clear hc
      go_wp2_with (first|(go_at_call 142;refine(rin_any _ _).mono ?_;rintro e w' ⟨rfl,rfl⟩)|(go_at_call 97;refine(HX.out _).mono ?_;rintro e w' ⟨rfl,m,rfl⟩))
      go_ret2
      exact⟨by rw[HV.out,HR.out];rfl,_,rfl⟩
     ·go_wp2_with (first|(go_at_call 142;refine(rin_any _ _).mono ?_;rintro e w' ⟨rfl,rfl⟩)|(go_at_call 97;refine(HX.out _).mono ?_;rintro e w' ⟨rfl,m,rfl⟩))
      go_ret2
      exact⟨by rw[HV.out,HR.out];rfl,_,rfl⟩
    ·have HR:=Hq (show closeR s v=(0,false) by simp[closeR,hin,heq])
     obtain⟨t,ht⟩:∃ t:ByteArray,(⟨(Lib.itoa v).toArray⟩:ByteArray)=t:=⟨_,rfl⟩
     have HX:=Hq (show ∀ W,Calls Tryz.prog 97 #[v] W fun e w'=>e= .returned (.string t)∧∃ m,w'=W.drewN m from fun W=>by
      have:=rtext_any v.natAbs v W (Nat.le_refl _) (by omega) (by omega)
      rwa[ht]at this)
     have hq:(t.toList==s.toList)=false:=by
      rw[ByteArray.toList_eq,ByteArray.toList_eq,← ht]
      simpa using heq
     clear heq ht
     rcases hcase with⟨hp,hc,rfl⟩|⟨hp,hc,rfl⟩|⟨hp,rfl⟩
     ·have hc':((s[0].toNat:Int)==45)=true:=by simpa[hp]using hc
      clear hc
      go_wp2_with (first|(go_at_call 142;refine(rin_any _ _).mono ?_;rintro e w' ⟨rfl,rfl⟩)|(go_at_call 97;refine(HX.out _).mono ?_;rintro e w' ⟨rfl,m,rfl⟩))
      go_ret2
      exact⟨by rw[HV.out,HR.out];rfl,_,rfl⟩
     ·have hc':((s[0].toNat:Int)==45)=false:=by simpa[hp]using hc
      clear hc
      go_wp2_with (first|(go_at_call 142;refine(rin_any _ _).mono ?_;rintro e w' ⟨rfl,rfl⟩)|(go_at_call 97;refine(HX.out _).mono ?_;rintro e w' ⟨rfl,m,rfl⟩))
      go_ret2
      exact⟨by rw[HV.out,HR.out];rfl,_,rfl⟩
     ·go_wp2_with (first|(go_at_call 142;refine(rin_any _ _).mono ?_;rintro e w' ⟨rfl,rfl⟩)|(go_at_call 97;refine(HX.out _).mono ?_;rintro e w' ⟨rfl,m,rfl⟩))
      go_ret2
      exact⟨by rw[HV.out,HR.out];rfl,_,rfl⟩
theorem closeR_eq (s:ByteArray)(h:s.size≤17):closeR s (signed s.data.toList)=parseN s.data.toList:=by
 rw[← parseR_eq,parseR,if_neg (by have h9:s.data.toList.length=s.size:=(by simp);omega)]
 rfl
theorem rparse_any (s:ByteArray)(w:World)(hs:s.size≤9223372036854775807):
 Calls Tryz.prog 95 #[s] w fun e w'=>e=twoN (parseN s.data.toList)∧∃ m,w'=w.drewN m:=by
 by_cases h:s.size≤17
 ·rw[← closeR_eq s h];exact rparse_short s h w
 ·have HR:=Hq (show parseN s.data.toList=(0,false) by
   rw[← parseR_eq,parseR,if_pos (by have h9:s.data.toList.length=s.size:=(by simp);omega)])
  go_enter Tryz.func95,Tryz.ntmps95
  go_wp2_with fail
  go_ret2
  exact⟨by rw[HR.out];rfl,0,rfl⟩
end Go.Proofs.YtmfkhdhnbkambaaGreatDoor
