import Derived.Test.YtdfkambdagoojaaGreatDoorHd00
import Derived.Test.YtdfkambdagoojaaGreatDoorHd07
import Derived.Test.YtdfkambdagoojaaGreatDoorHd14
import Derived.Deep.QuietTactic
import Derived.BigQuiet
set_option maxRecDepth 100000
set_option maxHeartbeats 16000000
set_option linter.unusedSimpArgs false
namespace Go.Proofs.YtdfkambdagoojaaGreatDoor
open Go.RowKit
def J9 (p:ByteArray)(o:Il):ByteArray:=Pg.Ay (Ac p).recs o.slot
def Dd (p:ByteArray)(o:Il):ByteArray×Bool:=
 if o.kind=1 then((Iv p o.slot o.new).1,decide ((Iv p o.slot o.new).2=0)&&decide (o.A5.size=0))
 else if o.kind=2 then((K8 p o.slot).1,((decide ((K8 p o.slot).2=0)&&decide (o.new.size=0))&& !decide ((J9 p o).size=0))&&decide (J9 p o=o.A5))
 else if o.kind=3 then((Jy p o.slot o.new).1,(decide ((Jy p o.slot o.new).2=0)&& !decide ((J9 p o).size=0))&&decide (J9 p o=o.A5))
 else if o.kind=4 then((J3 p o.slot o.new).1,decide ((J3 p o.slot o.new).2=0)&&decide (o.A5.size=0))
 else if o.kind=5 then((Lb p o.slot).1,((decide ((Lb p o.slot).2=0)&&decide (o.new.size=0))&& !decide ((J9 p o).size=0))&&decide (J9 p o=o.A5))
 else if o.kind=6 then(D9 p (NumPlain.D2 o.new.data.toList).1,(((NumPlain.D2 o.new.data.toList).2&& !decide ((D9 p (NumPlain.D2 o.new.data.toList).1).size=0))&&decide (o.slot=0))&&decide (o.A5=Js ((Ac p).link:Nat)))
 else if o.kind=7 then(Cj o.new ((Ac p).lsn:Nat),((!decide ((Cj o.new ((Ac p).lsn:Nat)).size=0)&&decide (o.slot=0))&&decide (o.new=Cj o.new 0))&&decide (o.A5=Cj p 0))
 else Dm
theorem Rx (p:ByteArray)(o:Il):Er p o=(!decide ((J9 p o).size=0)&&decide (J9 p o=o.A5)):=by
 unfold Er J9;rw[show decide (o.A5=Pg.Ay (Ac p).recs o.slot)=decide (Pg.Ay (Ac p).recs o.slot=o.A5)from by simp only[eq_comm]]
theorem dH {n:Int}{s:ByteArray}:Js n=s↔Lib.itoa n=s.data.toList:=by
 unfold Js
 constructor
 ·intro h;rw[← h]
 ·intro h;rw[h]
theorem oG (p:ByteArray)(o:Il):((((NumPlain.D2 o.new.data.toList).2&& !decide ((D9 p (NumPlain.D2 o.new.data.toList).1).size=0))&&decide (o.slot=0))&&decide (o.A5=Js ((Ac p).link:Nat)))=(Ek p o).2∧((Ek p o).2=true→D9 p (NumPlain.D2 o.new.data.toList).1=(Ek p o).1):=by
 cases a:(Ek p o).2 with
 |true=>
  unfold Ek at a ⊢
  split at a
  ·rename_i n k
   split at a
   ·rename_i g
    obtain⟨c1,c2,c3⟩:=g;have e:¬ (D9 p n).size=0:=(by simpa using a);obtain⟨_,l,m⟩:=Qi e;have b:NumPlain.Xc n=true:=NumPlain.rO (by omega) (by omega);have i:NumPlain.D2 o.new.data.toList=(n,true):=(by rw[← dH.1 c1];exact NumPlain.Sn b);rw[i];simp only[c1,c2,c3,and_self,if_true]
    simp[e]
   ·cases a
  ·cases a
 |false=>
  refine⟨?_,fun h=>by cases h⟩
  cases f:((((NumPlain.D2 o.new.data.toList).2&& !decide ((D9 p (NumPlain.D2 o.new.data.toList).1).size=0))&&decide (o.slot=0))&&decide (o.A5=Js ((Ac p).link:Nat)))with
  |false=>rfl
  |true=>
   simp only[Bool.and_eq_true,decide_eq_true_eq,Bool.not_eq_true',decide_eq_false_iff_not]at f;obtain⟨⟨⟨d1,d2⟩,d3⟩,d4⟩:=f;obtain⟨b,c⟩:=NumPlain.gA d1;have d:=NumPlain.Mx b;rw[c]at d;have j:Ek p o=(D9 p (NumPlain.D2 o.new.data.toList).1,!decide ((D9 p (NumPlain.D2 o.new.data.toList).1).size=0)):=by
    unfold Ek;rw[d];exact if_pos ⟨dH.2 c,d4,d3⟩
   rw[j]at a
   simp[d2]at a
theorem iF (p:ByteArray)(o:Il):(((!decide ((Cj o.new ((Ac p).lsn:Nat)).size=0)&&decide (o.slot=0))&&decide (o.new=Cj o.new 0))&&decide (o.A5=Cj p 0))=(Ih p o).2∧((Ih p o).2=true→Cj o.new ((Ac p).lsn:Nat)=(Ih p o).1):=by
 unfold Ih
 by_cases h:o.slot=0∧o.A5=Cj p 0∧¬ o.new.size=0∧Cj o.new 0=o.new
 ·rw[if_pos h]
  obtain⟨c,d,k,e⟩:=h;refine⟨?_,fun _=>rfl⟩;have f:decide (o.new=Cj o.new 0)=true:=decide_eq_true e.symm;rw[f,decide_eq_true c,decide_eq_true d]
  simp
 ·rw[if_neg h]
  refine⟨?_,fun h=>by cases h⟩
  show _=false
  cases b:(((!decide ((Cj o.new ((Ac p).lsn:Nat)).size=0)&&decide (o.slot=0))&&decide (o.new=Cj o.new 0))&&decide (o.A5=Cj p 0))with
  |false=>rfl
  |true=>
   simp only[Bool.and_eq_true,decide_eq_true_eq,Bool.not_eq_true',decide_eq_false_iff_not]at b;obtain⟨⟨⟨d1,d2⟩,d3⟩,d4⟩:=b;obtain⟨g,_,_⟩:=kB d1;have i:=(Mc g (l:=0) (by omega)).2.2;refine absurd ⟨d2,d4,?_,d3.symm⟩ h;intro j;have a:(Cj o.new 0).size=512:=i;rw[← d3,j]at a;omega
theorem Xp (p:ByteArray)(o:Il):(Dd p o).2=(Cg p o).2∧((Cg p o).2=true→(Dd p o).1=(Cg p o).1):=by
 unfold Dd Cg
 by_cases c:o.kind=1
 ·rw[if_pos c,if_pos c]
  by_cases h:o.A5.size=0
  ·rw[if_pos h];simp[okB,h]
  ·rw[if_neg h];simp[Dm,h]
 rw[if_neg c,if_neg c]
 by_cases d:o.kind=2
 ·rw[if_pos d,if_pos d,Rx]
  by_cases a:(J9 p o).size=0<;>by_cases b:J9 p o=o.A5<;>by_cases k:o.new.size=0<;>simp[okB,Dm,a,b,k]<;>simp_all
 rw[if_neg d,if_neg d]
 by_cases e:o.kind=3
 ·rw[if_pos e,if_pos e,Rx]
  by_cases a:(J9 p o).size=0<;>by_cases b:J9 p o=o.A5<;>simp[okB,Dm,a,b]<;>simp_all
 rw[if_neg e,if_neg e]
 by_cases f:o.kind=4
 ·rw[if_pos f,if_pos f]
  by_cases h:o.A5.size=0
  ·rw[if_pos h];simp[okB,h]
  ·rw[if_neg h];simp[Dm,h]
 rw[if_neg f,if_neg f]
 by_cases g:o.kind=5
 ·rw[if_pos g,if_pos g,Rx]
  by_cases a:(J9 p o).size=0<;>by_cases b:J9 p o=o.A5<;>by_cases k:o.new.size=0<;>simp[okB,Dm,a,b,k]<;>simp_all
 rw[if_neg g,if_neg g]
 by_cases i:o.kind=6
 ·rw[if_pos i,if_pos i];exact oG p o
 rw[if_neg i,if_neg i]
 by_cases j:o.kind=7
 ·rw[if_pos j,if_pos j];exact iF p o
 rw[if_neg j,if_neg j];exact⟨rfl,fun h=>by cases h⟩
theorem iG (p:ByteArray)(o:Il):((Dd p o).2&&Bo p)=Fs p o:=by
 unfold Fs;rw[(Xp p o).1,Bool.and_comm]
theorem vZ {p:ByteArray}{o:Il}(h:Fs p o=true):(Dd p o).1=(Cg p o).1:=by
 unfold Fs at h;rw[Bool.and_eq_true]at h;exact(Xp p o).2 h.2
open NumPlain
theorem Ka (a:Int)(w:World):
 Cq 165 #[a] w fun e w'=>e= .returned (.bool (Xc a))∧w=w':=by
 go_enter Tryz.func165,Tryz.ntmps165
 go_wp2
 ·go_ret
  rename_i h
  exact⟨by simp[Xc,h],rfl⟩
 ·go_ret
  rename_i h
  exact⟨by simp[Xc];omega,rfl⟩
abbrev Abh (r:Int×Bool):Ending:=.returned (.tuple #[r.1,r.2])
theorem sR {s:ByteArray}{l:List UInt8}(h:l=s.data.toList):(⟨l.toArray⟩:ByteArray)=s:=by
 subst h;cases s;simp
theorem oH (l r:List UInt8):(⟨l.toArray⟩:ByteArray)++⟨r.toArray⟩=⟨(l++r).toArray⟩:=by
 apply ByteArray.ext
 simp
theorem Sw (n:Int)(w:World)(a:n.natAbs<10):
 Cq 115 #[n] w fun e w'=>e= .returned (.string ⟨(Lib.itoa n).toArray⟩)∧∃ m,w'=w.drewN m:=by
 by_cases b:n<0
 ·obtain⟨d,rfl⟩:∃ d:Nat,n= -(d:Int):=⟨n.natAbs,by omega⟩
  go_enter Tryz.func115,Tryz.ntmps115;go_wp2_with fail;go_ret;exact⟨congrArg (fun s=>Ending.returned (Value.string s)) (by
   rw[gB (by omega) (by omega)];rw[Nat.add_comm 1 d]
   show(⟨#[45]⟩:ByteArray)++digits.extract d (d+1)=_
   rw[My d (by omega)];rfl),0,rfl⟩
 ·obtain⟨d,rfl⟩:∃ d:Nat,n=(d:Int):=⟨n.natAbs,by omega⟩
  go_enter Tryz.func115,Tryz.ntmps115;go_wp2_with fail;go_ret;exact⟨congrArg (fun s=>Ending.returned (Value.string s)) (by
   rw[rP (by omega)];exact My d (by omega)),0,rfl⟩
theorem oI (n q:Int)(r:Nat)(w:World)(y:10≤n)(z:n≤9223372036854775807)(o:r<10)(A:n%10=(r:Int))(p:n/10=q)
 (c:∀ W,Cq 115 #[q] W fun e w'=>e= .returned (.string ⟨(Lib.itoa q).toArray⟩)∧∃ m,w'=W.drewN m)
 (d:(⟨(Lib.itoa q).toArray⟩:ByteArray)++digits.extract r (r+1)=⟨(Lib.itoa n).toArray⟩):
 Cq 115 #[n] w fun e w'=>e= .returned (.string ⟨(Lib.itoa n).toArray⟩)∧∃ m,w'=w.drewN m:=by
 have u:IntKind.i64.wrap (n.tdiv 10)=q:=by
  rw[Int.tdiv_eq_ediv_of_nonneg (by omega),p];exact IntWalk.i64_in _ (by omega)
 have f:IntKind.i64.wrap ((r:Int)+1)=(r:Int)+1:=IntWalk.i64_in _ (by omega);have g:0≤(r:Int)+1:=by omega
 have h:((r:Int)+1).toNat=r+1:=by omega
 have i:(r:Int)≤(r:Int)+1:=by omega
 have j:(r:Int)+1≤10:=by omega
 have k:(Lib.itoa q).length≤21:=Lib.itoa_length_le q (by omega) (by omega);obtain⟨t,l⟩:=ex (⟨(Lib.itoa q).toArray⟩:ByteArray);have a:t.size=(Lib.itoa q).length:=by rw[l];rfl
 have b:∀ W:World,(Op.stringOp .add t ((⟨#[48,49,50,51,52,53,54,55,56,57]⟩:ByteArray).extract r (r+1))).run Tryz.prog W= .ok (.string (t++(⟨#[48,49,50,51,52,53,54,55,56,57]⟩:ByteArray).extract r (r+1))) W:=by
  intro W;refine run_string_add_sum W _ _ ?_;rw[a,ByteArray.size_extract];omega
 rw[← l]at c d;have v:=Hq c;have x:=Hq d;clear c d l a k;go_enter Tryz.func115,Tryz.ntmps115;go_wp2_with fail
 go_quiet ((go_at_call 115;exact Calls.quiet_of (v.out _)))
 clear u f g h i j b;go_wp2_with fail;go_ret;exact⟨congrArg (fun s=>Ending.returned (Value.string s)) x.out,_,rfl⟩
theorem oJ (n q:Int)(r:Nat)(w:World)(A:n≤-10)(B: -9223372036854775808≤n)(o:r<10)(p:0<r)(C:n.tmod 10= -(r:Int))(u:n.tdiv 10=q)(v: -922337203685477580≤q∧q<0)
 (c:∀ W,Cq 115 #[q] W fun e w'=>e= .returned (.string ⟨(Lib.itoa q).toArray⟩)∧∃ m,w'=W.drewN m)
 (d:(⟨(Lib.itoa q).toArray⟩:ByteArray)++digits.extract r (r+1)=⟨(Lib.itoa n).toArray⟩):
 Cq 115 #[n] w fun e w'=>e= .returned (.string ⟨(Lib.itoa n).toArray⟩)∧∃ m,w'=w.drewN m:=by
 have x:IntKind.i64.wrap (n.tdiv 10)=q:=by
  rw[u];exact IntWalk.i64_in _ (by omega)
 have f:IntKind.i64.wrap ((r:Int)+1)=(r:Int)+1:=IntWalk.i64_in _ (by omega);have g:0≤(r:Int)+1:=by omega
 have h:((r:Int)+1).toNat=r+1:=by omega
 have i:(r:Int)≤(r:Int)+1:=by omega
 have j:(r:Int)+1≤10:=by omega
 have k:(Lib.itoa q).length≤21:=Lib.itoa_length_le q (by omega) (by omega);obtain⟨t,l⟩:=ex (⟨(Lib.itoa q).toArray⟩:ByteArray);have a:t.size=(Lib.itoa q).length:=by rw[l];rfl
 have b:∀ W:World,(Op.stringOp .add t ((⟨#[48,49,50,51,52,53,54,55,56,57]⟩:ByteArray).extract r (r+1))).run Tryz.prog W= .ok (.string (t++(⟨#[48,49,50,51,52,53,54,55,56,57]⟩:ByteArray).extract r (r+1))) W:=by
  intro W;refine run_string_add_sum W _ _ ?_;rw[a,ByteArray.size_extract];omega
 rw[← l]at c d;have y:=Hq c;have z:=Hq d;clear c d l a k;go_enter Tryz.func115,Tryz.ntmps115;go_wp2_with fail
 go_quiet ((go_at_call 115;exact Calls.quiet_of (y.out _)))
 clear x f g h i j b;go_wp2_with fail;go_ret;exact⟨congrArg (fun s=>Ending.returned (Value.string s)) z.out,_,rfl⟩
theorem iH (n q:Int)(w:World)(o:n≤-10)(p: -9223372036854775808≤n)(r:n.tmod 10=0)(h:n.tdiv 10=q)(i: -922337203685477580≤q∧q<0)
 (c:∀ W,Cq 115 #[q] W fun e w'=>e= .returned (.string ⟨(Lib.itoa q).toArray⟩)∧∃ m,w'=W.drewN m)
 (d:(⟨(Lib.itoa q).toArray⟩:ByteArray)++digits.extract 0 1=⟨(Lib.itoa n).toArray⟩):
 Cq 115 #[n] w fun e w'=>e= .returned (.string ⟨(Lib.itoa n).toArray⟩)∧∃ m,w'=w.drewN m:=by
 have j:IntKind.i64.wrap (n.tdiv 10)=q:=by
  rw[h];exact IntWalk.i64_in _ (by omega)
 have f:(Lib.itoa q).length≤21:=Lib.itoa_length_le q (by omega) (by omega);obtain⟨t,g⟩:=ex (⟨(Lib.itoa q).toArray⟩:ByteArray);have a:t.size=(Lib.itoa q).length:=by rw[g];rfl
 have b:∀ W:World,(Op.stringOp .add t ((⟨#[48,49,50,51,52,53,54,55,56,57]⟩:ByteArray).extract 0 1)).run Tryz.prog W= .ok (.string (t++(⟨#[48,49,50,51,52,53,54,55,56,57]⟩:ByteArray).extract 0 1)) W:=by
  intro W;refine run_string_add_sum W _ _ ?_;rw[a,ByteArray.size_extract];omega
 rw[← g]at c d;have k:=Hq c;have l:=Hq d;clear c d g a f;go_enter Tryz.func115,Tryz.ntmps115;go_wp2_with fail
 go_quiet ((go_at_call 115;exact Calls.quiet_of (k.out _)))
 clear j b;go_wp2_with fail;go_ret;exact⟨congrArg (fun s=>Ending.returned (Value.string s)) l.out,_,rfl⟩
theorem Ry (k:Nat):∀ (n:Int) (w:World),n.natAbs≤k→-9223372036854775808≤n→n≤9223372036854775807→
 Cq 115 #[n] w fun e w'=>e= .returned (.string ⟨(Lib.itoa n).toArray⟩)∧∃ m,w'=w.drewN m:=by
 induction k with
 |zero=>exact fun n w d _ _=>Sw n w (by omega)
 |succ k ih=>
  intro n w d b f
  by_cases g:n.natAbs<10
  ·exact Sw n w g
  ·have h:=mR (n:=n) (by omega)
   have a:(⟨(Lib.itoa (n.tdiv 10)).toArray⟩:ByteArray)++digits.extract (n.natAbs%10) (n.natAbs%10+1)=⟨(Lib.itoa n).toArray⟩:=by
    rw[h,My _ (by omega)];exact oH _ _
   by_cases i:n<0
   ·obtain⟨c,j⟩:=gC i
    by_cases l:n.natAbs%10=0
    ·have o:n.tmod 10=0:=by omega
     rw[l]at a;exact iH n (n.tdiv 10) w (by omega) b o rfl (by omega) (fun W=>ih _ W (by omega) (by omega) (by omega)) a
    ·exact oJ n (n.tdiv 10) (n.natAbs%10) w (by omega) b (by omega) (by omega) j rfl (by omega) (fun W=>ih _ W (by omega) (by omega) (by omega)) a
   ·have c:n/10=n.tdiv 10:=by rw[Int.tdiv_eq_ediv_of_nonneg (by omega)]
    exact oI n (n.tdiv 10) (n.natAbs%10) w (by omega) f (by omega) (by omega) c (fun W=>ih _ W (by omega) (by omega) (by omega)) a
theorem dI (s:ByteArray)(k:Nat)(h:k<s.size):Ef 0 (s.data.toList.take (k+1))=if 48≤(s[k].toNat:Int)∧(s[k].toNat:Int)≤57 then 10*Ef 0 (s.data.toList.take k)+s[k].toNat-48 else Ef 0 (s.data.toList.take k):=by
 have e:s.data.toList.take (k+1)=s.data.toList.take k++[s[k]]:=by
  rw[List.take_succ_eq_append_getElem (by simpa using h)];rfl
 rw[e,Ox];simp only[Ef]
 by_cases a:48≤s[k].toNat∧s[k].toNat≤57
 ·rw[if_pos a,if_pos (by omega)]
 ·rw[if_neg a,if_neg (by omega)]
theorem oK (s:ByteArray)(a:s.size≤17)(k:Nat):0≤Ef 0 (s.data.toList.take k)∧Ef 0 (s.data.toList.take k)<100000000000000000:=by
 obtain⟨b,c⟩:=Y6 (s.data.toList.take k) 0 (by omega);refine⟨b,Int.lt_of_lt_of_le c ?_⟩;have d:(s.data.toList.take k).length≤17:=by
  have:s.data.toList.length=s.size:=by simp
  rw[List.length_take];omega
 have:(10:Int)^(s.data.toList.take k).length≤10^17:=by exact_mod_cast Nat.pow_le_pow_right (n:=10) (by omega) d
 omega
def N0 (s:ByteArray)(n:Int):Int×Bool:=if Xc n&&decide (Lib.itoa n=s.data.toList)then(n,true)else(0,false)
theorem sS (s:ByteArray):s.data.toList.take s.size=s.data.toList:=List.take_of_length_le (by simp)
theorem Zi (s:ByteArray)(h:0<s.size):signed s.data.toList=if((s[0].toNat:Int)==45)=true then - Ef 0 s.data.toList else Ef 0 s.data.toList:=by
 have e:s.data.toList.head? =some s[0]:=by
  rw[List.head?_eq_getElem?,List.getElem?_eq_getElem (by simpa using h)];rfl
 unfold signed;rw[e]
 by_cases a:s[0]=45
 ·rw[if_pos (by rw[a]),if_pos (by rw[a];rfl)]
 ·rw[if_neg (by simpa using a),if_neg]
  intro b
  apply a
  have c:(s[0].toNat:Int)=45:=by simpa using b
  have d:s[0].toNat=45:=by exact_mod_cast c
  exact UInt8.toNat_inj.1 d
theorem dJ (s:ByteArray)(h:¬ 0<s.size):signed s.data.toList=Ef 0 s.data.toList:=by
 have e:s.data.toList=[]:=List.eq_nil_of_length_eq_zero (by have a:s.data.toList.length=s.size:=(by simp);omega);rw[e];rfl
theorem Zj (s:ByteArray)(q:s.size≤17)(w:World):
 Cq 113 #[s] w fun e w'=>e=Abh (N0 s (signed s.data.toList))∧∃ m,w'=w.drewN m:=by
 go_enter Tryz.func113,Tryz.ntmps113;go_wp2_with fail
 go_loop [4,5] (fun n i=>∃ k:Nat,k≤s.size∧i= .int .i64 k∧n= .int .i64 (Ef 0 (s.data.toList.take k))) (fun _ i=>s.size-(intOf i).toNat)
 case atStart=>exact⟨0,Nat.zero_le _,rfl,rfl⟩
 case round=>
  obtain⟨k,C,rfl,rfl⟩:=hrel;obtain⟨g0,g1⟩:=oK s q k
  by_cases r:k<s.size
  ·have A:=Hq (dI s k r)
   go_wp2_with fail
   all_goals
    go_round
    case rel=>exact⟨k+1,by omega,by go_num,by rw[A.out];first|(rw[if_pos (by omega)];done)|(rw[if_pos (by omega)];go_num)|(rw[if_neg (by omega)])⟩
    case measure=>simp[intOf];omega
  ·obtain rfl:k=s.size:=by omega
   have x:=Hq (sS s);generalize y:Ef 0 (s.data.toList.take s.size)=g at g0 g1 ⊢;have o:Ef 0 s.data.toList=g:=(by rw[← x.out];exact y);obtain⟨v,z,c⟩:∃ v:Int,signed s.data.toList=v∧((0<s.size∧((s[0]?.getD 0).toNat:Int)=45∧v= -g)∨(0<s.size∧((s[0]?.getD 0).toNat:Int)≠45∧v=g)∨(s.size=0∧v=g)):=by
    refine⟨_,rfl,?_⟩
    by_cases b:0<s.size
    ·rw[Zi s b,o,show s[0]?.getD 0=s[0] by simp[b]]
     by_cases a:(s[0].toNat:Int)=45
     ·exact .inl ⟨b,a,by rw[if_pos (by simpa using a)]⟩
     ·exact .inr (.inl ⟨b,a,by rw[if_neg (by simpa using a)]⟩)
    ·exact .inr (.inr ⟨by omega,by rw[dJ s b,o]⟩)
   have j:=Hq z;have B: -100000000000000000<v∧v<100000000000000000:=(by omega);obtain⟨v0,v1⟩:=B;clear z y o x
   cases p:Xc v
   ·have f:=Hq (show N0 s v=(0,false) by simp[N0,p])
    have l:=True.intro;rcases c with⟨b,a,rfl⟩|⟨b,a,rfl⟩|⟨b,rfl⟩
    ·have h:((s[0].toNat:Int)==45)=true:=by simpa[b]using a
     clear a
     go_wp2_with(go_at_call 165;refine(Ka _ _).mono ?_;rintro e w' ⟨rfl,rfl⟩)
     go_ret2;exact⟨by rw[j.out,f.out];rfl,0,rfl⟩
    ·have h:((s[0].toNat:Int)==45)=false:=by simpa[b]using a
     clear a
     go_wp2_with(go_at_call 165;refine(Ka _ _).mono ?_;rintro e w' ⟨rfl,rfl⟩)
     go_ret2;exact⟨by rw[j.out,f.out];rfl,0,rfl⟩
    ·go_wp2_with(go_at_call 165;refine(Ka _ _).mono ?_;rintro e w' ⟨rfl,rfl⟩)
     go_ret2;exact⟨by rw[j.out,f.out];rfl,0,rfl⟩
   ·by_cases d:Lib.itoa v=s.data.toList
    ·have f:=Hq (show N0 s v=(v,true) by simp[N0,p,d])
     have l:=Hq (show ∀ W,Cq 115 #[v] W fun e w'=>e= .returned (.string s)∧∃ m,w'=W.drewN m from fun W=>by
      have:=Ry v.natAbs v W (Nat.le_refl _) (by omega) (by omega)
      rwa[sR d]at this)
     clear d;rcases c with⟨b,a,rfl⟩|⟨b,a,rfl⟩|⟨b,rfl⟩
     ·have h:((s[0].toNat:Int)==45)=true:=by simpa[b]using a
      clear a
      go_wp2_with(first|(go_at_call 165;refine(Ka _ _).mono ?_;rintro e w' ⟨rfl,rfl⟩)|(go_at_call 115;refine(l.out _).mono ?_;rintro e w' ⟨rfl,m,rfl⟩))
      go_ret2;exact⟨by rw[j.out,f.out];rfl,_,rfl⟩
     ·have h:((s[0].toNat:Int)==45)=false:=by simpa[b]using a
      clear a
      go_wp2_with(first|(go_at_call 165;refine(Ka _ _).mono ?_;rintro e w' ⟨rfl,rfl⟩)|(go_at_call 115;refine(l.out _).mono ?_;rintro e w' ⟨rfl,m,rfl⟩))
      go_ret2;exact⟨by rw[j.out,f.out];rfl,_,rfl⟩
     ·go_wp2_with(first|(go_at_call 165;refine(Ka _ _).mono ?_;rintro e w' ⟨rfl,rfl⟩)|(go_at_call 115;refine(l.out _).mono ?_;rintro e w' ⟨rfl,m,rfl⟩))
      go_ret2;exact⟨by rw[j.out,f.out];rfl,_,rfl⟩
    ·have f:=Hq (show N0 s v=(0,false) by simp[N0,p,d])
     obtain⟨t,u⟩:∃ t:ByteArray,(⟨(Lib.itoa v).toArray⟩:ByteArray)=t:=⟨_,rfl⟩;have l:=Hq (show ∀ W,Cq 115 #[v] W fun e w'=>e= .returned (.string t)∧∃ m,w'=W.drewN m from fun W=>by
      have:=Ry v.natAbs v W (Nat.le_refl _) (by omega) (by omega)
      rwa[u]at this)
     have D:(t.toList==s.toList)=false:=by
      rw[ByteArray.toList_eq,ByteArray.toList_eq,← u]
      simpa using d
     clear d u;rcases c with⟨b,a,rfl⟩|⟨b,a,rfl⟩|⟨b,rfl⟩
     ·have h:((s[0].toNat:Int)==45)=true:=by simpa[b]using a
      clear a
      go_wp2_with(first|(go_at_call 165;refine(Ka _ _).mono ?_;rintro e w' ⟨rfl,rfl⟩)|(go_at_call 115;refine(l.out _).mono ?_;rintro e w' ⟨rfl,m,rfl⟩))
      go_ret2;exact⟨by rw[j.out,f.out];rfl,_,rfl⟩
     ·have h:((s[0].toNat:Int)==45)=false:=by simpa[b]using a
      clear a
      go_wp2_with(first|(go_at_call 165;refine(Ka _ _).mono ?_;rintro e w' ⟨rfl,rfl⟩)|(go_at_call 115;refine(l.out _).mono ?_;rintro e w' ⟨rfl,m,rfl⟩))
      go_ret2;exact⟨by rw[j.out,f.out];rfl,_,rfl⟩
     ·go_wp2_with(first|(go_at_call 165;refine(Ka _ _).mono ?_;rintro e w' ⟨rfl,rfl⟩)|(go_at_call 115;refine(l.out _).mono ?_;rintro e w' ⟨rfl,m,rfl⟩))
      go_ret2;exact⟨by rw[j.out,f.out];rfl,_,rfl⟩
theorem oL (s:ByteArray)(h:s.size≤17):N0 s (signed s.data.toList)=D2 s.data.toList:=by
 rw[← Xd,U7,if_neg (by have a:s.data.toList.length=s.size:=(by simp);omega)]
 rfl
theorem iI (s:ByteArray)(w:World)(b:s.size≤9223372036854775807):
 Cq 113 #[s] w fun e w'=>e=Abh (D2 s.data.toList)∧∃ m,w'=w.drewN m:=by
 by_cases h:s.size≤17
 ·rw[← oL s h];exact Zj s h w
 ·have a:=Hq (show D2 s.data.toList=(0,false) by
   rw[← Xd,U7,if_pos (by have c:s.data.toList.length=s.size:=(by simp);omega)])
  go_enter Tryz.func113,Tryz.ntmps113;go_wp2_with fail;go_ret2;exact⟨by rw[a.out];rfl,0,rfl⟩
theorem zQ (n:Int)(a: -9223372036854775808≤n)(b:n≤9223372036854775807)(w:World):
 Cr 115 #[n] w (.string (Js n)):=by
 refine(Ry n.natAbs n w (Nat.le_refl _) a b).mono ?_;rintro e w' ⟨rfl,m,rfl⟩;exact⟨rfl,Dt _ _⟩
theorem wA (s:ByteArray)(a:s.size≤140737488355328)(w:World):
 Cr 113 #[s] w (.tuple #[.int .i64 (NumPlain.D2 s.data.toList).1,.bool (NumPlain.D2 s.data.toList).2]):=by
 refine(iI s w (by omega)).mono ?_;rintro e w' ⟨rfl,m,rfl⟩;exact⟨rfl,Dt _ _⟩
theorem dK (p:ByteArray)(b:p.size≤140737488355328)(w:World):
 Cr 117 #[p] w (.string (Cj p 0)):=by
 have c:=Hq (fun W=>Ll p 0 b W);go_enter Tryz.func117,Tryz.ntmps117
 go_wp2_with((go_at_call 24;refine(c.out _).mono ?_;rintro e d ⟨rfl,a⟩))
 go_ret;exact⟨rfl,a⟩
theorem wB (p:ByteArray)(o:Il)(n:o.kind=1)(t:p.size≤140737488355328)(z:o.new.size≤140737488355328)(w:World):
 Cr 64 #[p,E0 o] w (.tuple #[.string (Dd p o).1,.bool (Dd p o).2]):=by
 have k:=Hq (De w o 40);have d:=Hq (fun W=>Ds p o.slot t W);obtain⟨R,q⟩:=ex (Dd p o);rw[← q];have a:=Hq (q.trans (show Dd p o=((Iv p o.slot o.new).1,decide ((Iv p o.slot o.new).2=0)&&decide (o.A5.size=0)) by unfold Dd;rw[n];rfl));have c:=Hq (fun W=>Xb p o.slot o.new t W);generalize Iv p o.slot o.new=x at c a;obtain⟨s,ex⟩:=x;unfold G7 at c;dsimp only at c a;generalize (!decide ((Pg.Ay (Ac p).recs o.slot).size=0))=th at d a;generalize Pg.Ay (Ac p).recs o.slot=r at d a;obtain⟨kind,slot,A5,new⟩:=o;dsimp only[E0]at k d a n c ⊢;subst n;clear q;go_enter Tryz.func64,Tryz.ntmps64
 go_upto_region 7 with(first|(go_at_call 107;refine(d.out _).mono ?_;rintro e A ⟨rfl,b⟩;obtain⟨a0,u,a2,a3,-⟩:=(k.out.step b).v;dsimp only at a0 u a2 a3)|(go_at_call 108;refine(c.out _).mono ?_;rintro e B ⟨rfl,f⟩))
 have l:=Hq ((k.out.step b).step f);clear k b f a0 u a2 a3 c d;obtain⟨c0,c1,c2,c3,-⟩:=l.out.v;dsimp only at c0 c1 c2 c3
 by_cases m:ex=0
 ·subst m
  by_cases hold:A5.size=0
  ·obtain⟨g,h,i⟩:=Ft hold
   have j:=Hq (a.out.trans (show _=(s,true) by simp[hold]));clear a hold
   go_quiet (fail)
   go_wp2_with fail;go_ret2;exact⟨by rw[j.out];rfl,Af l.out.below (Dt _ _)⟩
  ·obtain⟨g,h,i⟩:=Ez hold
   have j:=Hq (a.out.trans (show _=(s,false) by simp[hold]));clear a hold
   go_quiet (fail)
   go_wp2_with fail;go_ret2;exact⟨by rw[j.out];rfl,Af l.out.below (Dt _ _)⟩
 ·have y:(ex==0)=false:=by simpa using m
  have j:=Hq (a.out.trans (show _=(s,false) by simp[m]));clear a m
  go_quiet (fail)
  go_wp2_with fail;go_ret2;exact⟨by rw[j.out];rfl,Af l.out.below (Dt _ _)⟩
theorem wC (p:ByteArray)(o:Il)(s:o.kind=2)(u:p.size≤140737488355328)(C:o.new.size≤140737488355328)(w:World):
 Cr 64 #[p,E0 o] w (.tuple #[.string (Dd p o).1,.bool (Dd p o).2]):=by
 have m:=Hq (De w o 40);have h:=Hq (fun W=>Ds p o.slot u W);obtain⟨R,t⟩:=ex (Dd p o);rw[← t];have b:=Hq (t.trans (show Dd p o=((K8 p o.slot).1,((decide ((K8 p o.slot).2=0)&&decide (o.new.size=0))&& !decide ((J9 p o).size=0))&&decide (J9 p o=o.A5)) by unfold Dd;rw[s];rfl));have f:=Hq (fun W=>mL p o.slot u W);generalize K8 p o.slot=x at f b;obtain⟨i,ex⟩:=x;unfold G7 at f;dsimp only at f b;unfold J9 at b;generalize (!decide ((Pg.Ay (Ac p).recs o.slot).size=0))=z at h b;generalize Pg.Ay (Ac p).recs o.slot=r at h b;obtain⟨kind,slot,A5,new⟩:=o;dsimp only[E0]at m h b s f ⊢;subst s;clear t;go_enter Tryz.func64,Tryz.ntmps64
 go_upto_region 10 with(first|(go_at_call 107;refine(h.out _).mono ?_;rintro e D ⟨rfl,d⟩;obtain⟨a0,y,a2,a3,-⟩:=(m.out.step d).v;dsimp only at a0 y a2 a3)|(go_at_call 109;refine(f.out _).mono ?_;rintro e E ⟨rfl,j⟩))
 have g:=Hq ((m.out.step d).step j);clear m d j a0 y a2 a3 f h;obtain⟨c0,c1,c2,c3,-⟩:=g.out.v;dsimp only at c0 c1 c2 c3
 by_cases n:ex=0
 ·subst n
  by_cases a:new.size=0
  ·obtain⟨k,Gt,l⟩:=Ft a
   cases z with
   |true=>
    by_cases q:r=A5
    ·subst q
     have A:(r.toList==r.toList)=true:=beq_self_eq_true _;have c:=Hq (b.out.trans (show _=(i,true) by simp[a]));clear b a
     go_quiet (fail)
     go_wp2_with fail;go_ret2;exact⟨by rw[c.out];rfl,Af g.out.below (Dt _ _)⟩
    ·have A:=E4 q
     have c:=Hq (b.out.trans (show _=(i,false) by simp[a,q]));clear b a q
     go_quiet (fail)
     go_wp2_with fail;go_ret2;exact⟨by rw[c.out];rfl,Af g.out.below (Dt _ _)⟩
   |false=>
    have c:=Hq (b.out.trans (show _=(i,false) by simp[a]));clear b a
    go_quiet (fail)
    go_wp2_with fail;go_ret2;exact⟨by rw[c.out];rfl,Af g.out.below (Dt _ _)⟩
  ·obtain⟨k,Gt,l⟩:=Ez a
   have c:=Hq (b.out.trans (show _=(i,false) by simp[a]));clear b a
   go_quiet (fail)
   go_wp2_with fail;go_ret2;exact⟨by rw[c.out];rfl,Af g.out.below (Dt _ _)⟩
 ·have B:(ex==0)=false:=by simpa using n
  have c:=Hq (b.out.trans (show _=(i,false) by simp[n]));clear b n
  go_quiet (fail)
  go_wp2_with fail;go_ret2;exact⟨by rw[c.out];rfl,Af g.out.below (Dt _ _)⟩
theorem wD (p:ByteArray)(o:Il)(m:o.kind=3)(q:p.size≤140737488355328)(z:o.new.size≤140737488355328)(w:World):
 Cr 64 #[p,E0 o] w (.tuple #[.string (Dd p o).1,.bool (Dd p o).2]):=by
 have i:=Hq (De w o 40);have f:=Hq (fun W=>Ds p o.slot q W);obtain⟨R,n⟩:=ex (Dd p o);rw[← n];have a:=Hq (n.trans (show Dd p o=((Jy p o.slot o.new).1,(decide ((Jy p o.slot o.new).2=0)&& !decide ((J9 p o).size=0))&&decide (J9 p o=o.A5)) by unfold Dd;rw[m];rfl));have d:=Hq (fun W=>mM p o.slot o.new q W);generalize Jy p o.slot o.new=x at d a;obtain⟨j,ex⟩:=x;unfold G7 at d;dsimp only at d a;unfold J9 at a;generalize (!decide ((Pg.Ay (Ac p).recs o.slot).size=0))=t at f a;generalize Pg.Ay (Ac p).recs o.slot=r at f a;obtain⟨kind,slot,A5,new⟩:=o;dsimp only[E0]at i f a m d ⊢;subst m;clear n;go_enter Tryz.func64,Tryz.ntmps64
 go_upto_region 13 with(first|(go_at_call 107;refine(f.out _).mono ?_;rintro e A ⟨rfl,b⟩;obtain⟨a0,s,a2,a3,-⟩:=(i.out.step b).v;dsimp only at a0 s a2 a3)|(go_at_call 110;refine(d.out _).mono ?_;rintro e B ⟨rfl,g⟩))
 have h:=Hq ((i.out.step b).step g);clear i b g a0 s a2 a3 d f;obtain⟨c0,c1,c2,c3,-⟩:=h.out.v;dsimp only at c0 c1 c2 c3
 by_cases k:ex=0
 ·subst k
  cases t with
  |true=>
   by_cases l:r=A5
   ·subst l
    have u:(r.toList==r.toList)=true:=beq_self_eq_true _;have c:=Hq (a.out.trans (show _=(j,true) by simp[]));clear a
    go_quiet (fail)
    go_wp2_with fail;go_ret2;exact⟨by rw[c.out];rfl,Af h.out.below (Dt _ _)⟩
   ·have u:=E4 l
    have c:=Hq (a.out.trans (show _=(j,false) by simp[l]));clear a l
    go_quiet (fail)
    go_wp2_with fail;go_ret2;exact⟨by rw[c.out];rfl,Af h.out.below (Dt _ _)⟩
  |false=>
   have c:=Hq (a.out.trans (show _=(j,false) by simp[]));clear a
   go_quiet (fail)
   go_wp2_with fail;go_ret2;exact⟨by rw[c.out];rfl,Af h.out.below (Dt _ _)⟩
 ·have y:(ex==0)=false:=by simpa using k
  have c:=Hq (a.out.trans (show _=(j,false) by simp[k]));clear a k
  go_quiet (fail)
  go_wp2_with fail;go_ret2;exact⟨by rw[c.out];rfl,Af h.out.below (Dt _ _)⟩
theorem wE (p:ByteArray)(o:Il)(n:o.kind=4)(t:p.size≤140737488355328)(z:o.new.size≤140737488355328)(w:World):
 Cr 64 #[p,E0 o] w (.tuple #[.string (Dd p o).1,.bool (Dd p o).2]):=by
 have k:=Hq (De w o 40);have d:=Hq (fun W=>Ds p o.slot t W);obtain⟨R,q⟩:=ex (Dd p o);rw[← q];have a:=Hq (q.trans (show Dd p o=((J3 p o.slot o.new).1,decide ((J3 p o.slot o.new).2=0)&&decide (o.A5.size=0)) by unfold Dd;rw[n];rfl));have c:=Hq (fun W=>mN p o.slot o.new t W);generalize J3 p o.slot o.new=x at c a;obtain⟨s,ex⟩:=x;unfold G7 at c;dsimp only at c a;generalize (!decide ((Pg.Ay (Ac p).recs o.slot).size=0))=th at d a;generalize Pg.Ay (Ac p).recs o.slot=r at d a;obtain⟨kind,slot,A5,new⟩:=o;dsimp only[E0]at k d a n c ⊢;subst n;clear q;go_enter Tryz.func64,Tryz.ntmps64
 go_upto_region 16 with(first|(go_at_call 107;refine(d.out _).mono ?_;rintro e A ⟨rfl,b⟩;obtain⟨a0,u,a2,a3,-⟩:=(k.out.step b).v;dsimp only at a0 u a2 a3)|(go_at_call 111;refine(c.out _).mono ?_;rintro e B ⟨rfl,f⟩))
 have l:=Hq ((k.out.step b).step f);clear k b f a0 u a2 a3 c d;obtain⟨c0,c1,c2,c3,-⟩:=l.out.v;dsimp only at c0 c1 c2 c3
 by_cases m:ex=0
 ·subst m
  by_cases hold:A5.size=0
  ·obtain⟨g,h,i⟩:=Ft hold
   have j:=Hq (a.out.trans (show _=(s,true) by simp[hold]));clear a hold
   go_quiet (fail)
   go_wp2_with fail;go_ret2;exact⟨by rw[j.out];rfl,Af l.out.below (Dt _ _)⟩
  ·obtain⟨g,h,i⟩:=Ez hold
   have j:=Hq (a.out.trans (show _=(s,false) by simp[hold]));clear a hold
   go_quiet (fail)
   go_wp2_with fail;go_ret2;exact⟨by rw[j.out];rfl,Af l.out.below (Dt _ _)⟩
 ·have y:(ex==0)=false:=by simpa using m
  have j:=Hq (a.out.trans (show _=(s,false) by simp[m]));clear a m
  go_quiet (fail)
  go_wp2_with fail;go_ret2;exact⟨by rw[j.out];rfl,Af l.out.below (Dt _ _)⟩
theorem wF (p:ByteArray)(o:Il)(s:o.kind=5)(u:p.size≤140737488355328)(C:o.new.size≤140737488355328)(w:World):
 Cr 64 #[p,E0 o] w (.tuple #[.string (Dd p o).1,.bool (Dd p o).2]):=by
 have m:=Hq (De w o 40);have h:=Hq (fun W=>Ds p o.slot u W);obtain⟨R,t⟩:=ex (Dd p o);rw[← t];have b:=Hq (t.trans (show Dd p o=((Lb p o.slot).1,((decide ((Lb p o.slot).2=0)&&decide (o.new.size=0))&& !decide ((J9 p o).size=0))&&decide (J9 p o=o.A5)) by unfold Dd;rw[s];rfl));have f:=Hq (fun W=>mO p o.slot u W);generalize Lb p o.slot=x at f b;obtain⟨i,ex⟩:=x;unfold G7 at f;dsimp only at f b;unfold J9 at b;generalize (!decide ((Pg.Ay (Ac p).recs o.slot).size=0))=z at h b;generalize Pg.Ay (Ac p).recs o.slot=r at h b;obtain⟨kind,slot,A5,new⟩:=o;dsimp only[E0]at m h b s f ⊢;subst s;clear t;go_enter Tryz.func64,Tryz.ntmps64
 go_upto_region 19 with(first|(go_at_call 107;refine(h.out _).mono ?_;rintro e D ⟨rfl,d⟩;obtain⟨a0,y,a2,a3,-⟩:=(m.out.step d).v;dsimp only at a0 y a2 a3)|(go_at_call 112;refine(f.out _).mono ?_;rintro e E ⟨rfl,j⟩))
 have g:=Hq ((m.out.step d).step j);clear m d j a0 y a2 a3 f h;obtain⟨c0,c1,c2,c3,-⟩:=g.out.v;dsimp only at c0 c1 c2 c3
 by_cases n:ex=0
 ·subst n
  by_cases a:new.size=0
  ·obtain⟨k,Gt,l⟩:=Ft a
   cases z with
   |true=>
    by_cases q:r=A5
    ·subst q
     have A:(r.toList==r.toList)=true:=beq_self_eq_true _;have c:=Hq (b.out.trans (show _=(i,true) by simp[a]));clear b a
     go_quiet (fail)
     go_wp2_with fail;go_ret2;exact⟨by rw[c.out];rfl,Af g.out.below (Dt _ _)⟩
    ·have A:=E4 q
     have c:=Hq (b.out.trans (show _=(i,false) by simp[a,q]));clear b a q
     go_quiet (fail)
     go_wp2_with fail;go_ret2;exact⟨by rw[c.out];rfl,Af g.out.below (Dt _ _)⟩
   |false=>
    have c:=Hq (b.out.trans (show _=(i,false) by simp[a]));clear b a
    go_quiet (fail)
    go_wp2_with fail;go_ret2;exact⟨by rw[c.out];rfl,Af g.out.below (Dt _ _)⟩
  ·obtain⟨k,Gt,l⟩:=Ez a
   have c:=Hq (b.out.trans (show _=(i,false) by simp[a]));clear b a
   go_quiet (fail)
   go_wp2_with fail;go_ret2;exact⟨by rw[c.out];rfl,Af g.out.below (Dt _ _)⟩
 ·have B:(ex==0)=false:=by simpa using n
  have c:=Hq (b.out.trans (show _=(i,false) by simp[n]));clear b n
  go_quiet (fail)
  go_wp2_with fail;go_ret2;exact⟨by rw[c.out];rfl,Af g.out.below (Dt _ _)⟩
theorem iJ (p:ByteArray)(o:Il)(d:¬ (1≤o.kind∧o.kind≤7))(h:p.size≤140737488355328)(j:o.new.size≤140737488355328)(w:World):
 Cr 64 #[p,E0 o] w (.tuple #[.string (Dd p o).1,.bool (Dd p o).2]):=by
 have b:=Hq (De w o 40);have f:=Hq (fun W=>Ds p o.slot h W);obtain⟨R,c⟩:=ex (Dd p o);rw[← c];have g:=Hq (c.trans (show Dd p o=Dm by unfold Dd;rw[if_neg (by omega),if_neg (by omega),if_neg (by omega),if_neg (by omega),if_neg (by omega),if_neg (by omega),if_neg (by omega)]));obtain⟨kind,slot,A5,new⟩:=o;dsimp only[E0]at b f g d ⊢;have k:(kind==1)=false:=by simp;omega
 have l:(kind==2)=false:=by simp;omega
 have m:(kind==3)=false:=by simp;omega
 have n:(kind==4)=false:=by simp;omega
 have q:(kind==5)=false:=by simp;omega
 have r:(kind==6)=false:=by simp;omega
 have s:(kind==7)=false:=by simp;omega
 clear c d;go_enter Tryz.func64,Tryz.ntmps64
 go_wp2_with((go_at_call 107;refine(f.out _).mono ?_;rintro e t ⟨rfl,a⟩;obtain⟨a0,i,a2,a3,-⟩:=(b.out.step a).v;dsimp only at a0 i a2 a3))
 go_ret2;exact⟨by rw[g.out];rfl,(b.out.step a).below⟩
theorem wG (p:ByteArray)(o:Il)(x:o.kind=6)(z:p.size≤140737488355328)(G:o.new.size≤140737488355328)(w:World):
 Cr 64 #[p,E0 o] w (.tuple #[.string (Dd p o).1,.bool (Dd p o).2]):=by
 have m:=Hq (De w o 40);have A:=Hq (fun W=>Ds p o.slot z W);obtain⟨R,B⟩:=ex (Dd p o);rw[← B];have d:=Hq (B.trans (show Dd p o=(D9 p (NumPlain.D2 o.new.data.toList).1,(((NumPlain.D2 o.new.data.toList).2&& !decide ((D9 p (NumPlain.D2 o.new.data.toList).1).size=0))&&decide (o.slot=0))&&decide (o.A5=Js ((Ac p).link:Nat))) by unfold Dd;rw[x];rfl));have k:=Hq (fun W=>wA o.new G W);generalize NumPlain.D2 o.new.data.toList=y at k d;obtain⟨n,ok⟩:=y;have C:=Hq (fun W=>Yk p n z W);have D:=Hq (fun W=>lJ p z W);have r:=Hq (fun W=>zQ ((Ac p).link:Nat) (by omega) (by have:=Kt p;omega) W);dsimp only at k d;generalize D9 p n=q at C d;generalize Js ((Ac p).link:Nat)=lt at r d;generalize ((Ac p).link:Nat)=lk at r D;obtain⟨kind,slot,A5,new⟩:=o;dsimp only[E0]at m A d x k ⊢;subst x;clear B;go_enter Tryz.func64,Tryz.ntmps64
 go_upto_region 23 with(first|(go_at_call 107;refine(A.out _).mono ?_;rintro e M ⟨rfl,j⟩;obtain⟨a0,F,a2,a3,-⟩:=(m.out.step j).v;dsimp only at a0 F a2 a3)|(go_at_call 113;refine(k.out _).mono ?_;rintro e s ⟨rfl,b⟩)|(go_at_call 114;refine(C.out _).mono ?_;rintro e N ⟨rfl,l⟩))
 have c:=Hq (((m.out.step j).step b).step l);clear m j b l a0 F a2 a3 k C A
 cases ok with
 |false=>
  have h:=Hq (d.out.trans (show _=(q,false) by simp[]));clear d;refine Hw (S:=(fun u=>E1 w.heap.size ⟨6,slot,A5,new⟩ w u)) (fun a=>?_) (by first|exact hSn|exact c.out.v|exact(c.out.step (Below.refl _ _).drew).v);refine tkQ 0 ?_;refine tkQ 1 ?_;refine tkQ 2 ?_;refine Eh 3 (some 148) rfl ?_
  try simp only[Act.put,pS]
  refine Eh 4 (some 149) rfl ?_
  try simp only[Act.put,pS]
  refine tkQ 5 ?_;refine tkQ 6 ?_;refine Eh 7 (some 152) rfl ?_
  try simp only[Act.put,pS]
  refine Eh 8 (some 153) rfl ?_
  try simp only[Act.put,pS]
  refine Eh 9 (some 154) rfl ?_
  try simp only[Act.put,pS]
  refine tkQ 10 ?_;refine tkQ 11 ?_;refine Eh 12 (some 157) rfl ?_
  try simp only[Act.put,pS]
  refine Eh 13 (some 158) rfl ?_
  try simp only[Act.put,pS]
  refine Eh 14 (some 159) rfl ?_
  try simp only[Act.put,pS]
  refine Eh 15 (some 160) rfl ?_
  try simp only[Act.put,pS]
  refine Eh 16 (some 161) rfl ?_
  try simp only[Act.put,pS]
  refine Eh 17 (some 162) rfl ?_
  try simp only[Act.put,pS]
  refine tkQ 18 ?_;refine tkQ 19 ?_;refine tkQ 20 ?_;refine wpAnyH_done Kr ?_ _;go_wp2_with fail;go_ret2;exact⟨by rw[h.out];rfl,a.2.2.2.2.below⟩
 |true=>
  by_cases g:q.size=0
  ·obtain⟨H,I,J⟩:=Ft g
   have h:=Hq (d.out.trans (show _=(q,false) by simp[g]));clear d g;refine Hw (S:=(fun u=>E1 w.heap.size ⟨6,slot,A5,new⟩ w u)) (fun a=>?_) (by first|exact hSn|exact c.out.v|exact(c.out.step (Below.refl _ _).drew).v);refine tkQ 0 ?_;refine tkQ 1 ?_;refine tkQ 2 ?_;refine tkQ 3 ?_;refine tkQ 4 ?_;refine tkQ 5 ?_;refine tkQ 6 ?_;refine Eh 7 (some 152) rfl ?_
   try simp only[Act.put,pS]
   refine Eh 8 (some 153) rfl ?_
   try simp only[Act.put,pS]
   refine Eh 9 (some 154) rfl ?_
   try simp only[Act.put,pS]
   refine tkQ 10 ?_;refine tkQ 11 ?_;refine Eh 12 (some 157) rfl ?_
   try simp only[Act.put,pS]
   refine Eh 13 (some 158) rfl ?_
   try simp only[Act.put,pS]
   refine Eh 14 (some 159) rfl ?_
   try simp only[Act.put,pS]
   refine Eh 15 (some 160) rfl ?_
   try simp only[Act.put,pS]
   refine Eh 16 (some 161) rfl ?_
   try simp only[Act.put,pS]
   refine Eh 17 (some 162) rfl ?_
   try simp only[Act.put,pS]
   refine tkQ 18 ?_;refine tkQ 19 ?_;refine tkQ 20 ?_;refine wpAnyH_done Kr ?_ _;go_wp2_with fail;go_ret2;exact⟨by rw[h.out];rfl,a.2.2.2.2.below⟩
  ·obtain⟨H,I,J⟩:=Ez g
   by_cases i:slot=0
   ·have E:(slot==0)=true:=by simp[i]
    by_cases t:A5=lt
    ·subst t
     have L:(A5.toList==A5.toList)=true:=beq_self_eq_true _;have h:=Hq (d.out.trans (show _=(q,true) by simp[g,i]));clear d g i;refine Hw (S:=(fun u=>E1 w.heap.size ⟨6,slot,A5,new⟩ w u)) (fun a=>?_) (by first|exact hSn|exact c.out.v|exact(c.out.step (Below.refl _ _).drew).v);refine tkQ 0 ?_;refine tkQ 1 ?_;refine tkQ 2 ?_;refine tkQ 3 ?_;refine tkQ 4 ?_;refine tkQ 5 ?_;refine tkQ 6 ?_;refine tkQ 7 ?_;refine tkQ 8 ?_;refine tkQ 9 ?_;refine tkQ 10 ?_;refine tkQ 11 ?_;refine tkQ 12 ?_;refine tkQ 13 ?_;refine tkQ 14 ?_;refine D3 15 fun K f=>?_
     go_simp
     refine(D.out _).mono ?_;rintro e s ⟨rfl,b⟩;have hSn:=(a.2.2.2.2.step b).v;clear a b;try go_simp
     refine Db f (fun a=>?_) (by first|exact hSn|exact c.out.v|exact(c.out.step (Below.refl _ _).drew).v);clear f K;refine D3 16 fun K f=>?_
     go_simp
     refine(r.out _).mono ?_;rintro e s ⟨rfl,b⟩;have hSn:=(a.2.2.2.2.step b).v;clear a b;try go_simp
     refine Db f (fun a=>?_) (by first|exact hSn|exact c.out.v|exact(c.out.step (Below.refl _ _).drew).v);clear f K;refine tkQ 17 ?_;refine tkQ 18 ?_;refine tkQ 19 ?_;refine tkQ 20 ?_;refine wpAnyH_done Kr ?_ _;go_wp2_with fail;go_ret2;exact⟨by rw[h.out];rfl,a.2.2.2.2.below⟩
    ·have L:=E4 t
     have h:=Hq (d.out.trans (show _=(q,false) by simp[g,i,t]));clear d g i t;refine Hw (S:=(fun u=>E1 w.heap.size ⟨6,slot,A5,new⟩ w u)) (fun a=>?_) (by first|exact hSn|exact c.out.v|exact(c.out.step (Below.refl _ _).drew).v);refine tkQ 0 ?_;refine tkQ 1 ?_;refine tkQ 2 ?_;refine tkQ 3 ?_;refine tkQ 4 ?_;refine tkQ 5 ?_;refine tkQ 6 ?_;refine tkQ 7 ?_;refine tkQ 8 ?_;refine tkQ 9 ?_;refine tkQ 10 ?_;refine tkQ 11 ?_;refine tkQ 12 ?_;refine tkQ 13 ?_;refine tkQ 14 ?_;refine D3 15 fun K f=>?_
     go_simp
     refine(D.out _).mono ?_;rintro e s ⟨rfl,b⟩;have hSn:=(a.2.2.2.2.step b).v;clear a b;try go_simp
     refine Db f (fun a=>?_) (by first|exact hSn|exact c.out.v|exact(c.out.step (Below.refl _ _).drew).v);clear f K;refine D3 16 fun K f=>?_
     go_simp
     refine(r.out _).mono ?_;rintro e s ⟨rfl,b⟩;have hSn:=(a.2.2.2.2.step b).v;clear a b;try go_simp
     refine Db f (fun a=>?_) (by first|exact hSn|exact c.out.v|exact(c.out.step (Below.refl _ _).drew).v);clear f K;refine tkQ 17 ?_;refine tkQ 18 ?_;refine tkQ 19 ?_;refine tkQ 20 ?_;refine wpAnyH_done Kr ?_ _;go_wp2_with fail;go_ret2;exact⟨by rw[h.out];rfl,a.2.2.2.2.below⟩
   ·have E:(slot==0)=false:=by simpa using i
    have h:=Hq (d.out.trans (show _=(q,false) by simp[g,i]));clear d g i;refine Hw (S:=(fun u=>E1 w.heap.size ⟨6,slot,A5,new⟩ w u)) (fun a=>?_) (by first|exact hSn|exact c.out.v|exact(c.out.step (Below.refl _ _).drew).v);refine tkQ 0 ?_;refine tkQ 1 ?_;refine tkQ 2 ?_;refine tkQ 3 ?_;refine tkQ 4 ?_;refine tkQ 5 ?_;refine tkQ 6 ?_;refine tkQ 7 ?_;refine tkQ 8 ?_;refine tkQ 9 ?_;refine tkQ 10 ?_;refine tkQ 11 ?_;refine Eh 12 (some 157) rfl ?_
    try simp only[Act.put,pS]
    refine Eh 13 (some 158) rfl ?_
    try simp only[Act.put,pS]
    refine Eh 14 (some 159) rfl ?_
    try simp only[Act.put,pS]
    refine Eh 15 (some 160) rfl ?_
    try simp only[Act.put,pS]
    refine Eh 16 (some 161) rfl ?_
    try simp only[Act.put,pS]
    refine Eh 17 (some 162) rfl ?_
    try simp only[Act.put,pS]
    refine tkQ 18 ?_;refine tkQ 19 ?_;refine tkQ 20 ?_;refine wpAnyH_done Kr ?_ _;go_wp2_with fail;go_ret2;exact⟨by rw[h.out];rfl,a.2.2.2.2.below⟩
theorem wH (p:ByteArray)(o:Il)(t:o.kind=7)(x:p.size≤140737488355328)(E:o.new.size≤140737488355328)(w:World):
 Cr 64 #[p,E0 o] w (.tuple #[.string (Dd p o).1,.bool (Dd p o).2]):=by
 have n:=Hq (De w o 40);have y:=Hq (fun W=>Ds p o.slot x W);obtain⟨R,z⟩:=ex (Dd p o);rw[← z];have f:=Hq (z.trans (show Dd p o=(Cj o.new ((Ac p).lsn:Nat),((!decide ((Cj o.new ((Ac p).lsn:Nat)).size=0)&&decide (o.slot=0))&&decide (o.new=Cj o.new 0))&&decide (o.A5=Cj p 0)) by unfold Dd;rw[t];rfl));have A:=Hq (fun W=>aR p x W);have l:=Hq (fun W=>Ll o.new ((Ac p).lsn:Nat) E W);have m:=Hq (fun W=>dK o.new E W);have B:=Hq (fun W=>dK p x W);generalize Cj o.new ((Ac p).lsn:Nat)=q at l f;generalize ((Ac p).lsn:Nat)=ln at A l;generalize Cj o.new 0=nb at m f;generalize Cj p 0=pb at B f;obtain⟨kind,slot,A5,new⟩:=o;dsimp only[E0]at n y f t l m ⊢;subst t;clear z;go_enter Tryz.func64,Tryz.ntmps64
 go_upto_region 25 with(go_at_call 107;refine(y.out _).mono ?_;rintro e M ⟨rfl,j⟩;obtain⟨a0,F,a2,a3,-⟩:=(n.out.step j).v;dsimp only at a0 F a2 a3)
 have c:=Hq (n.out.step j);clear n j a0 F a2 a3 y;refine Hw (S:=(fun u=>E1 w.heap.size ⟨7,slot,A5,new⟩ w u)) (fun a=>?_) (by first|exact hSn|exact c.out.v|exact(c.out.step (Below.refl _ _).drew).v);refine tkQ 0 ?_;refine tkQ 1 ?_;refine tkQ 2 ?_;refine D3 3 fun K d=>?_
 go_simp
 refine(A.out _).mono ?_;rintro e k ⟨rfl,b⟩;have hSn:=(a.2.2.2.2.step b).v;clear a b;try go_simp
 refine Db d (fun a=>?_) (by first|exact hSn|exact c.out.v|exact(c.out.step (Below.refl _ _).drew).v);clear d K;refine D3 4 fun K d=>?_
 go_simp
 refine(l.out _).mono ?_;rintro e k ⟨rfl,b⟩;have hSn:=(a.2.2.2.2.step b).v;clear a b;try go_simp
 refine Db d (fun a=>?_) (by first|exact hSn|exact c.out.v|exact(c.out.step (Below.refl _ _).drew).v);clear d K;refine tkQ 5 ?_;refine wpAnyH_done Kr ?_ _;have G:=Hq a.2.2.2.2;clear a hSn c A l;have c:=G;clear G;go_upto_region 26 with fail
 by_cases g:q.size=0
 ·obtain⟨H,I,J⟩:=Ft g
  have i:=Hq (f.out.trans (show _=(q,false) by simp[g]));clear f g;refine Hw (S:=(fun u=>E1 w.heap.size ⟨7,slot,A5,new⟩ w u)) (fun a=>?_) (by first|exact hSn|exact c.out.v|exact(c.out.step (Below.refl _ _).drew).v);refine tkQ 0 ?_;refine tkQ 1 ?_;refine tkQ 2 ?_;refine tkQ 3 ?_;refine Eh 4 (some 175) rfl ?_
  try simp only[Act.put,pS]
  refine Eh 5 (some 176) rfl ?_
  try simp only[Act.put,pS]
  refine Eh 6 (some 177) rfl ?_
  try simp only[Act.put,pS]
  refine tkQ 7 ?_;refine tkQ 8 ?_;refine Eh 9 (some 180) rfl ?_
  try simp only[Act.put,pS]
  refine Eh 10 (some 181) rfl ?_
  try simp only[Act.put,pS]
  refine Eh 11 (some 182) rfl ?_
  try simp only[Act.put,pS]
  refine Eh 12 (some 183) rfl ?_
  try simp only[Act.put,pS]
  refine Eh 13 (some 184) rfl ?_
  try simp only[Act.put,pS]
  refine Eh 14 (some 185) rfl ?_
  try simp only[Act.put,pS]
  refine tkQ 15 ?_;refine tkQ 16 ?_;refine Eh 17 (some 188) rfl ?_
  try simp only[Act.put,pS]
  refine Eh 18 (some 189) rfl ?_
  try simp only[Act.put,pS]
  refine Eh 19 (some 190) rfl ?_
  try simp only[Act.put,pS]
  refine Eh 20 (some 191) rfl ?_
  try simp only[Act.put,pS]
  refine Eh 21 (some 192) rfl ?_
  try simp only[Act.put,pS]
  refine tkQ 22 ?_;refine tkQ 23 ?_;refine tkQ 24 ?_;refine wpAnyH_done Kr ?_ _;go_wp2_with fail;go_ret2;exact⟨by rw[i.out];rfl,a.2.2.2.2.below⟩
 ·obtain⟨H,I,J⟩:=Ez g
  by_cases h:slot=0
  ·have C:(slot==0)=true:=by simp[h]
   by_cases r:new=nb
   ·subst r
    have L:(new.toList==new.toList)=true:=beq_self_eq_true _
    by_cases s:A5=pb
    ·subst s
     have D:(A5.toList==A5.toList)=true:=beq_self_eq_true _;have i:=Hq (f.out.trans (show _=(q,true) by simp[g,h]));clear f g h;refine Hw (S:=(fun u=>E1 w.heap.size ⟨7,slot,A5,new⟩ w u)) (fun a=>?_) (by first|exact hSn|exact c.out.v|exact(c.out.step (Below.refl _ _).drew).v);refine tkQ 0 ?_;refine tkQ 1 ?_;refine tkQ 2 ?_;refine tkQ 3 ?_;refine tkQ 4 ?_;refine tkQ 5 ?_;refine tkQ 6 ?_;refine tkQ 7 ?_;refine tkQ 8 ?_;refine tkQ 9 ?_;refine tkQ 10 ?_;refine tkQ 11 ?_;refine tkQ 12 ?_;refine D3 13 fun K d=>?_
     go_simp
     refine(m.out _).mono ?_;rintro e k ⟨rfl,b⟩;have hSn:=(a.2.2.2.2.step b).v;clear a b;try go_simp
     refine Db d (fun a=>?_) (by first|exact hSn|exact c.out.v|exact(c.out.step (Below.refl _ _).drew).v);clear d K;refine tkQ 14 ?_;refine tkQ 15 ?_;refine tkQ 16 ?_;refine tkQ 17 ?_;refine tkQ 18 ?_;refine tkQ 19 ?_;refine D3 20 fun K d=>?_
     go_simp
     refine(B.out _).mono ?_;rintro e k ⟨rfl,b⟩;have hSn:=(a.2.2.2.2.step b).v;clear a b;try go_simp
     refine Db d (fun a=>?_) (by first|exact hSn|exact c.out.v|exact(c.out.step (Below.refl _ _).drew).v);clear d K;refine tkQ 21 ?_;refine tkQ 22 ?_;refine tkQ 23 ?_;refine tkQ 24 ?_;refine wpAnyH_done Kr ?_ _;go_wp2_with fail;go_ret2;exact⟨by rw[i.out];rfl,a.2.2.2.2.below⟩
    ·have D:=E4 s
     have i:=Hq (f.out.trans (show _=(q,false) by simp[g,h,s]));clear f g h s;refine Hw (S:=(fun u=>E1 w.heap.size ⟨7,slot,A5,new⟩ w u)) (fun a=>?_) (by first|exact hSn|exact c.out.v|exact(c.out.step (Below.refl _ _).drew).v);refine tkQ 0 ?_;refine tkQ 1 ?_;refine tkQ 2 ?_;refine tkQ 3 ?_;refine tkQ 4 ?_;refine tkQ 5 ?_;refine tkQ 6 ?_;refine tkQ 7 ?_;refine tkQ 8 ?_;refine tkQ 9 ?_;refine tkQ 10 ?_;refine tkQ 11 ?_;refine tkQ 12 ?_;refine D3 13 fun K d=>?_
     go_simp
     refine(m.out _).mono ?_;rintro e k ⟨rfl,b⟩;have hSn:=(a.2.2.2.2.step b).v;clear a b;try go_simp
     refine Db d (fun a=>?_) (by first|exact hSn|exact c.out.v|exact(c.out.step (Below.refl _ _).drew).v);clear d K;refine tkQ 14 ?_;refine tkQ 15 ?_;refine tkQ 16 ?_;refine tkQ 17 ?_;refine tkQ 18 ?_;refine tkQ 19 ?_;refine D3 20 fun K d=>?_
     go_simp
     refine(B.out _).mono ?_;rintro e k ⟨rfl,b⟩;have hSn:=(a.2.2.2.2.step b).v;clear a b;try go_simp
     refine Db d (fun a=>?_) (by first|exact hSn|exact c.out.v|exact(c.out.step (Below.refl _ _).drew).v);clear d K;refine tkQ 21 ?_;refine tkQ 22 ?_;refine tkQ 23 ?_;refine tkQ 24 ?_;refine wpAnyH_done Kr ?_ _;go_wp2_with fail;go_ret2;exact⟨by rw[i.out];rfl,a.2.2.2.2.below⟩
   ·have L:=E4 r
    have i:=Hq (f.out.trans (show _=(q,false) by simp[g,h,r]));clear f g h r;refine Hw (S:=(fun u=>E1 w.heap.size ⟨7,slot,A5,new⟩ w u)) (fun a=>?_) (by first|exact hSn|exact c.out.v|exact(c.out.step (Below.refl _ _).drew).v);refine tkQ 0 ?_;refine tkQ 1 ?_;refine tkQ 2 ?_;refine tkQ 3 ?_;refine tkQ 4 ?_;refine tkQ 5 ?_;refine tkQ 6 ?_;refine tkQ 7 ?_;refine tkQ 8 ?_;refine tkQ 9 ?_;refine tkQ 10 ?_;refine tkQ 11 ?_;refine tkQ 12 ?_;refine D3 13 fun K d=>?_
    go_simp
    refine(m.out _).mono ?_;rintro e k ⟨rfl,b⟩;have hSn:=(a.2.2.2.2.step b).v;clear a b;try go_simp
    refine Db d (fun a=>?_) (by first|exact hSn|exact c.out.v|exact(c.out.step (Below.refl _ _).drew).v);clear d K;refine tkQ 14 ?_;refine tkQ 15 ?_;refine tkQ 16 ?_;refine Eh 17 (some 188) rfl ?_
    try simp only[Act.put,pS]
    refine Eh 18 (some 189) rfl ?_
    try simp only[Act.put,pS]
    refine Eh 19 (some 190) rfl ?_
    try simp only[Act.put,pS]
    refine Eh 20 (some 191) rfl ?_
    try simp only[Act.put,pS]
    refine Eh 21 (some 192) rfl ?_
    try simp only[Act.put,pS]
    refine tkQ 22 ?_;refine tkQ 23 ?_;refine tkQ 24 ?_;refine wpAnyH_done Kr ?_ _;go_wp2_with fail;go_ret2;exact⟨by rw[i.out];rfl,a.2.2.2.2.below⟩
  ·have C:(slot==0)=false:=by simpa using h
   have i:=Hq (f.out.trans (show _=(q,false) by simp[g,h]));clear f g h;refine Hw (S:=(fun u=>E1 w.heap.size ⟨7,slot,A5,new⟩ w u)) (fun a=>?_) (by first|exact hSn|exact c.out.v|exact(c.out.step (Below.refl _ _).drew).v);refine tkQ 0 ?_;refine tkQ 1 ?_;refine tkQ 2 ?_;refine tkQ 3 ?_;refine tkQ 4 ?_;refine tkQ 5 ?_;refine tkQ 6 ?_;refine tkQ 7 ?_;refine tkQ 8 ?_;refine Eh 9 (some 180) rfl ?_
   try simp only[Act.put,pS]
   refine Eh 10 (some 181) rfl ?_
   try simp only[Act.put,pS]
   refine Eh 11 (some 182) rfl ?_
   try simp only[Act.put,pS]
   refine Eh 12 (some 183) rfl ?_
   try simp only[Act.put,pS]
   refine Eh 13 (some 184) rfl ?_
   try simp only[Act.put,pS]
   refine Eh 14 (some 185) rfl ?_
   try simp only[Act.put,pS]
   refine tkQ 15 ?_;refine tkQ 16 ?_;refine Eh 17 (some 188) rfl ?_
   try simp only[Act.put,pS]
   refine Eh 18 (some 189) rfl ?_
   try simp only[Act.put,pS]
   refine Eh 19 (some 190) rfl ?_
   try simp only[Act.put,pS]
   refine Eh 20 (some 191) rfl ?_
   try simp only[Act.put,pS]
   refine Eh 21 (some 192) rfl ?_
   try simp only[Act.put,pS]
   refine tkQ 22 ?_;refine tkQ 23 ?_;refine tkQ 24 ?_;refine wpAnyH_done Kr ?_ _;go_wp2_with fail;go_ret2;exact⟨by rw[i.out];rfl,a.2.2.2.2.below⟩
theorem Xq (p:ByteArray)(o:Il)(a:p.size≤140737488355328)(b:o.new.size≤140737488355328)(w:World):
 Cr 64 #[p,E0 o] w (.tuple #[.string (Dd p o).1,.bool (Dd p o).2]):=by
 by_cases h:1≤o.kind∧o.kind≤7
 ·have c:o.kind=1∨o.kind=2∨o.kind=3∨o.kind=4∨o.kind=5∨o.kind=6∨o.kind=7:=by omega
  rcases c with h|h|h|h|h|h|h
  ·exact wB p o h a b w
  ·exact wC p o h a b w
  ·exact wD p o h a b w
  ·exact wE p o h a b w
  ·exact wF p o h a b w
  ·exact wG p o h a b w
  ·exact wH p o h a b w
 ·exact iJ p o h a b w
def ab:ByteArray:=⟨#[97,98]⟩
def o1:Il:=⟨1,0,⟨#[]⟩,ab⟩
def o6:Il:=⟨6,0,⟨#[48]⟩,⟨#[55]⟩⟩
theorem dL (p:ByteArray)(o:Il)(h:p.size≤140737488355328)(i:o.new.size≤140737488355328)(w:World):
 Cr 63 #[p,E0 o] w (.bool (Fs p o)):=by
 have d:=Hq (fun W=>Xq p o h i W);have j:=Hq (fun W=>aQ p h W);have c:=Hq (iG p o);generalize Fs p o=R at c ⊢;generalize Bo p=b at j c;generalize Dd p o=x at d c;obtain⟨m,k⟩:=x;obtain⟨kind,slot,A5,new⟩:=o;dsimp only[E0]at d c ⊢;clear i
 cases k with
 |true=>
  have f:=Hq (c.out.symm.trans (Bool.true_and _));go_enter Tryz.func63,Tryz.ntmps63
  go_wp2_with(first|(go_at_call 64;refine(d.out _).mono ?_;rintro e l ⟨rfl,a⟩)|(go_at_call 40;refine(j.out _).mono ?_;rintro e n ⟨rfl,g⟩))
  go_ret;exact⟨by rw[f.out];rfl,Af (Af (Ag _ _) a) g⟩
 |false=>
  have f:=Hq (c.out.symm.trans (Bool.false_and _));go_enter Tryz.func63,Tryz.ntmps63
  go_wp2_with((go_at_call 64;refine(d.out _).mono ?_;rintro e l ⟨rfl,a⟩))
  go_ret;exact⟨by rw[f.out];rfl,Af (Ag _ _) a⟩
theorem wI (p:ByteArray)(o:Il)(l:p.size≤140737488355328)(g:o.new.size≤140737488355328)(w:World):
 Cr 25 #[p,E0 o] w (G7 (jZ p o)):=by
 have i:=Hq (fun W=>Xq p o l g W);have f:=Hq (fun W=>dL p o l g W);have m:=Hq (De w o 40);have c:=Hq (fun h=>(sQ (p:=p) (o:=o) h).trans (by rw[← vZ h]));have d:=Hq (fun h=>yI (p:=p) (o:=o) h);generalize jZ p o=R at c d ⊢;generalize Fs p o=b at f c d;generalize Dd p o=x at i c;obtain⟨q,r⟩:=x;obtain⟨kind,slot,A5,new⟩:=o;dsimp only[E0]at i f m ⊢;clear g
 cases b with
 |true=>
  have j:=Hq (c.out rfl);clear c d;go_enter Tryz.func25,Tryz.ntmps25
  go_wp2_with(first|(go_at_call 63;refine(f.out _).mono ?_;rintro e n ⟨rfl,a⟩;obtain⟨c0,c1,c2,c3,-⟩:=(m.out.step a).v;dsimp only at c0 c1 c2 c3)|(go_at_call 64;refine(i.out _).mono ?_;rintro e s ⟨rfl,k⟩))
  go_ret2;exact⟨by rw[j.out];rfl,Af (Af (Ag _ _) a) k⟩
 |false=>
  have j:=Hq (d.out rfl);clear c d;go_enter Tryz.func25,Tryz.ntmps25
  go_wp2_with((go_at_call 63;refine(f.out _).mono ?_;rintro e n ⟨rfl,a⟩))
  go_ret2;exact⟨by rw[j.out];rfl,Af (Ag _ _) a⟩
end Go.Proofs.YtdfkambdagoojaaGreatDoor
