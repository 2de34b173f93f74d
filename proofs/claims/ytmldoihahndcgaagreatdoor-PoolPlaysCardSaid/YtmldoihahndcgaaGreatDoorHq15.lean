import Derived.Test.YtmldoihahndcgaaGreatDoorHq00
import Derived.Test.YtmldoihahndcgaaGreatDoorHq07
import Derived.Test.YtmldoihahndcgaaGreatDoorHq14
import Derived.Deep.QuietTactic
import Derived.BigQuiet
set_option maxRecDepth 100000
set_option maxHeartbeats 16000000
set_option linter.unusedSimpArgs false
namespace Go.Proofs.YtmldoihahndcgaaGreatDoor
open Go.RowKit
def I1 (p:ByteArray)(o:Hf):ByteArray:=Pg.Aw (Ab p).recs o.slot
def Cz (p:ByteArray)(o:Hf):ByteArray×Bool:=
 if o.kind=1 then((Hk p o.slot o.new).1,decide ((Hk p o.slot o.new).2=0)&&decide (o.Bd.size=0))
 else if o.kind=2 then((Jp p o.slot).1,((decide ((Jp p o.slot).2=0)&&decide (o.new.size=0))&& !decide ((I1 p o).size=0))&&decide (I1 p o=o.Bd))
 else if o.kind=3 then((Iu p o.slot o.new).1,(decide ((Iu p o.slot o.new).2=0)&& !decide ((I1 p o).size=0))&&decide (I1 p o=o.Bd))
 else if o.kind=4 then((I0 p o.slot o.new).1,decide ((I0 p o.slot o.new).2=0)&&decide (o.Bd.size=0))
 else if o.kind=5 then((Jr p o.slot).1,((decide ((Jr p o.slot).2=0)&&decide (o.new.size=0))&& !decide ((I1 p o).size=0))&&decide (I1 p o=o.Bd))
 else if o.kind=6 then(Dy p (NumPlain.Dp o.new.data.toList).1,(((NumPlain.Dp o.new.data.toList).2&& !decide ((Dy p (NumPlain.Dp o.new.data.toList).1).size=0))&&decide (o.slot=0))&&decide (o.Bd=Ip ((Ab p).link:Nat)))
 else if o.kind=7 then(Cj o.new ((Ab p).lsn:Nat),((!decide ((Cj o.new ((Ab p).lsn:Nat)).size=0)&&decide (o.slot=0))&&decide (o.new=Cj o.new 0))&&decide (o.Bd=Cj p 0))
 else Da
theorem Pz (p:ByteArray)(o:Hf):Ee p o=(!decide ((I1 p o).size=0)&&decide (I1 p o=o.Bd)):=by
 unfold Ee I1;rw[show decide (o.Bd=Pg.Aw (Ab p).recs o.slot)=decide (Pg.Aw (Ab p).recs o.slot=o.Bd)from by simp only[eq_comm]]
theorem Zi {n:Int}{s:ByteArray}:Ip n=s↔Lib.itoa n=s.data.toList:=by
 unfold Ip
 constructor
 ·intro h;rw[← h]
 ·intro h;rw[h]
theorem jG (p:ByteArray)(o:Hf):((((NumPlain.Dp o.new.data.toList).2&& !decide ((Dy p (NumPlain.Dp o.new.data.toList).1).size=0))&&decide (o.slot=0))&&decide (o.Bd=Ip ((Ab p).link:Nat)))=(D8 p o).2∧((D8 p o).2=true→Dy p (NumPlain.Dp o.new.data.toList).1=(D8 p o).1):=by
 cases a:(D8 p o).2 with
 |true=>
  unfold D8 at a ⊢
  split at a
  ·rename_i n k
   split at a
   ·rename_i g
    obtain⟨c1,c2,c3⟩:=g;have e:¬ (Dy p n).size=0:=(by simpa using a);obtain⟨_,l,m⟩:=Oi e;have b:NumPlain.Ur n=true:=NumPlain.mU (by omega) (by omega);have i:NumPlain.Dp o.new.data.toList=(n,true):=(by rw[← Zi.1 c1];exact NumPlain.Qh b);rw[i];simp only[c1,c2,c3,and_self,if_true]
    simp[e]
   ·cases a
  ·cases a
 |false=>
  refine⟨?_,fun h=>by cases h⟩
  cases f:((((NumPlain.Dp o.new.data.toList).2&& !decide ((Dy p (NumPlain.Dp o.new.data.toList).1).size=0))&&decide (o.slot=0))&&decide (o.Bd=Ip ((Ab p).link:Nat)))with
  |false=>rfl
  |true=>
   simp only[Bool.and_eq_true,decide_eq_true_eq,Bool.not_eq_true',decide_eq_false_iff_not]at f;obtain⟨⟨⟨d1,d2⟩,d3⟩,d4⟩:=f;obtain⟨b,c⟩:=NumPlain.bW d1;have d:=NumPlain.Kz b;rw[c]at d;have j:D8 p o=(Dy p (NumPlain.Dp o.new.data.toList).1,!decide ((Dy p (NumPlain.Dp o.new.data.toList).1).size=0)):=by
    unfold D8;rw[d];exact if_pos ⟨Zi.2 c,d4,d3⟩
   rw[j]at a
   simp[d2]at a
theorem cV (p:ByteArray)(o:Hf):(((!decide ((Cj o.new ((Ab p).lsn:Nat)).size=0)&&decide (o.slot=0))&&decide (o.new=Cj o.new 0))&&decide (o.Bd=Cj p 0))=(Ha p o).2∧((Ha p o).2=true→Cj o.new ((Ab p).lsn:Nat)=(Ha p o).1):=by
 unfold Ha
 by_cases h:o.slot=0∧o.Bd=Cj p 0∧¬ o.new.size=0∧Cj o.new 0=o.new
 ·rw[if_pos h]
  obtain⟨c,d,k,e⟩:=h;refine⟨?_,fun _=>rfl⟩;have f:decide (o.new=Cj o.new 0)=true:=decide_eq_true e.symm;rw[f,decide_eq_true c,decide_eq_true d]
  simp
 ·rw[if_neg h]
  refine⟨?_,fun h=>by cases h⟩
  show _=false
  cases b:(((!decide ((Cj o.new ((Ab p).lsn:Nat)).size=0)&&decide (o.slot=0))&&decide (o.new=Cj o.new 0))&&decide (o.Bd=Cj p 0))with
  |false=>rfl
  |true=>
   simp only[Bool.and_eq_true,decide_eq_true_eq,Bool.not_eq_true',decide_eq_false_iff_not]at b;obtain⟨⟨⟨d1,d2⟩,d3⟩,d4⟩:=b;obtain⟨g,_,_⟩:=eR d1;have i:=(Ki g (l:=0) (by omega)).2.2;refine absurd ⟨d2,d4,?_,d3.symm⟩ h;intro j;have a:(Cj o.new 0).size=512:=i;rw[← d3,j]at a;omega
theorem U6 (p:ByteArray)(o:Hf):(Cz p o).2=(Bv p o).2∧((Bv p o).2=true→(Cz p o).1=(Bv p o).1):=by
 unfold Cz Bv
 by_cases c:o.kind=1
 ·rw[if_pos c,if_pos c]
  by_cases h:o.Bd.size=0
  ·rw[if_pos h];simp[okB,h]
  ·rw[if_neg h];simp[Da,h]
 rw[if_neg c,if_neg c]
 by_cases d:o.kind=2
 ·rw[if_pos d,if_pos d,Pz]
  by_cases a:(I1 p o).size=0<;>by_cases b:I1 p o=o.Bd<;>by_cases k:o.new.size=0<;>simp[okB,Da,a,b,k]<;>simp_all
 rw[if_neg d,if_neg d]
 by_cases e:o.kind=3
 ·rw[if_pos e,if_pos e,Pz]
  by_cases a:(I1 p o).size=0<;>by_cases b:I1 p o=o.Bd<;>simp[okB,Da,a,b]<;>simp_all
 rw[if_neg e,if_neg e]
 by_cases f:o.kind=4
 ·rw[if_pos f,if_pos f]
  by_cases h:o.Bd.size=0
  ·rw[if_pos h];simp[okB,h]
  ·rw[if_neg h];simp[Da,h]
 rw[if_neg f,if_neg f]
 by_cases g:o.kind=5
 ·rw[if_pos g,if_pos g,Pz]
  by_cases a:(I1 p o).size=0<;>by_cases b:I1 p o=o.Bd<;>by_cases k:o.new.size=0<;>simp[okB,Da,a,b,k]<;>simp_all
 rw[if_neg g,if_neg g]
 by_cases i:o.kind=6
 ·rw[if_pos i,if_pos i];exact jG p o
 rw[if_neg i,if_neg i]
 by_cases j:o.kind=7
 ·rw[if_pos j,if_pos j];exact cV p o
 rw[if_neg j,if_neg j];exact⟨rfl,fun h=>by cases h⟩
theorem cW (p:ByteArray)(o:Hf):((Cz p o).2&&Bj p)=Fe p o:=by
 unfold Fe;rw[(U6 p o).1,Bool.and_comm]
theorem qX {p:ByteArray}{o:Hf}(h:Fe p o=true):(Cz p o).1=(Bv p o).1:=by
 unfold Fe at h;rw[Bool.and_eq_true]at h;exact(U6 p o).2 h.2
open NumPlain
theorem I2 (a:Int)(w:World):
 Cq 321 #[a] w fun e w'=>e= .returned (.bool (Ur a))∧w=w':=by
 go_enter Tryz.func321,Tryz.ntmps321
 go_wp2
 ·go_ret
  rename_i h
  exact⟨by simp[Ur,h],rfl⟩
 ·go_ret
  rename_i h
  exact⟨by simp[Ur];omega,rfl⟩
abbrev vV (r:Int×Bool):Ending:=.returned (.tuple #[r.1,r.2])
theorem nX {s:ByteArray}{l:List UInt8}(h:l=s.data.toList):(⟨l.toArray⟩:ByteArray)=s:=by
 subst h;cases s;simp
theorem jH (l r:List UInt8):(⟨l.toArray⟩:ByteArray)++⟨r.toArray⟩=⟨(l++r).toArray⟩:=by
 apply ByteArray.ext
 simp
theorem Qo (n:Int)(w:World)(a:n.natAbs<10):
 Cq 166 #[n] w fun e w'=>e= .returned (.string ⟨(Lib.itoa n).toArray⟩)∧∃ m,w'=w.drewN m:=by
 by_cases b:n<0
 ·obtain⟨d,rfl⟩:∃ d:Nat,n= -(d:Int):=⟨n.natAbs,by omega⟩
  go_enter Tryz.func166,Tryz.ntmps166;go_wp2_with fail;go_ret;exact⟨congrArg (fun s=>Ending.returned (Value.string s)) (by
   rw[bX (by omega) (by omega)];rw[Nat.add_comm 1 d]
   show(⟨#[45]⟩:ByteArray)++digits.extract d (d+1)=_
   rw[K1 d (by omega)];rfl),0,rfl⟩
 ·obtain⟨d,rfl⟩:∃ d:Nat,n=(d:Int):=⟨n.natAbs,by omega⟩
  go_enter Tryz.func166,Tryz.ntmps166;go_wp2_with fail;go_ret;exact⟨congrArg (fun s=>Ending.returned (Value.string s)) (by
   rw[mV (by omega)];exact K1 d (by omega)),0,rfl⟩
theorem jI (n q:Int)(r:Nat)(w:World)(y:10≤n)(z:n≤9223372036854775807)(o:r<10)(A:n%10=(r:Int))(p:n/10=q)
 (c:∀ W,Cq 166 #[q] W fun e w'=>e= .returned (.string ⟨(Lib.itoa q).toArray⟩)∧∃ m,w'=W.drewN m)
 (d:(⟨(Lib.itoa q).toArray⟩:ByteArray)++digits.extract r (r+1)=⟨(Lib.itoa n).toArray⟩):
 Cq 166 #[n] w fun e w'=>e= .returned (.string ⟨(Lib.itoa n).toArray⟩)∧∃ m,w'=w.drewN m:=by
 have u:IntKind.i64.wrap (n.tdiv 10)=q:=by
  rw[Int.tdiv_eq_ediv_of_nonneg (by omega),p];exact IntWalk.i64_in _ (by omega)
 have f:IntKind.i64.wrap ((r:Int)+1)=(r:Int)+1:=IntWalk.i64_in _ (by omega);have g:0≤(r:Int)+1:=by omega
 have h:((r:Int)+1).toNat=r+1:=by omega
 have i:(r:Int)≤(r:Int)+1:=by omega
 have j:(r:Int)+1≤10:=by omega
 have k:(Lib.itoa q).length≤21:=Lib.itoa_length_le q (by omega) (by omega);obtain⟨t,l⟩:=ex (⟨(Lib.itoa q).toArray⟩:ByteArray);have a:t.size=(Lib.itoa q).length:=by rw[l];rfl
 have b:∀ W:World,(Op.stringOp .add t ((⟨#[48,49,50,51,52,53,54,55,56,57]⟩:ByteArray).extract r (r+1))).run Tryz.prog W= .ok (.string (t++(⟨#[48,49,50,51,52,53,54,55,56,57]⟩:ByteArray).extract r (r+1))) W:=by
  intro W;refine run_string_add_sum W _ _ ?_;rw[a,ByteArray.size_extract];omega
 rw[← l]at c d;have v:=Hq c;have x:=Hq d;clear c d l a k;go_enter Tryz.func166,Tryz.ntmps166;go_wp2_with fail
 go_quiet ((go_at_call 166;exact Calls.quiet_of (v.out _)))
 clear u f g h i j b;go_wp2_with fail;go_ret;exact⟨congrArg (fun s=>Ending.returned (Value.string s)) x.out,_,rfl⟩
theorem jJ (n q:Int)(r:Nat)(w:World)(A:n≤-10)(B: -9223372036854775808≤n)(o:r<10)(p:0<r)(C:n.tmod 10= -(r:Int))(u:n.tdiv 10=q)(v: -922337203685477580≤q∧q<0)
 (c:∀ W,Cq 166 #[q] W fun e w'=>e= .returned (.string ⟨(Lib.itoa q).toArray⟩)∧∃ m,w'=W.drewN m)
 (d:(⟨(Lib.itoa q).toArray⟩:ByteArray)++digits.extract r (r+1)=⟨(Lib.itoa n).toArray⟩):
 Cq 166 #[n] w fun e w'=>e= .returned (.string ⟨(Lib.itoa n).toArray⟩)∧∃ m,w'=w.drewN m:=by
 have x:IntKind.i64.wrap (n.tdiv 10)=q:=by
  rw[u];exact IntWalk.i64_in _ (by omega)
 have f:IntKind.i64.wrap ((r:Int)+1)=(r:Int)+1:=IntWalk.i64_in _ (by omega);have g:0≤(r:Int)+1:=by omega
 have h:((r:Int)+1).toNat=r+1:=by omega
 have i:(r:Int)≤(r:Int)+1:=by omega
 have j:(r:Int)+1≤10:=by omega
 have k:(Lib.itoa q).length≤21:=Lib.itoa_length_le q (by omega) (by omega);obtain⟨t,l⟩:=ex (⟨(Lib.itoa q).toArray⟩:ByteArray);have a:t.size=(Lib.itoa q).length:=by rw[l];rfl
 have b:∀ W:World,(Op.stringOp .add t ((⟨#[48,49,50,51,52,53,54,55,56,57]⟩:ByteArray).extract r (r+1))).run Tryz.prog W= .ok (.string (t++(⟨#[48,49,50,51,52,53,54,55,56,57]⟩:ByteArray).extract r (r+1))) W:=by
  intro W;refine run_string_add_sum W _ _ ?_;rw[a,ByteArray.size_extract];omega
 rw[← l]at c d;have y:=Hq c;have z:=Hq d;clear c d l a k;go_enter Tryz.func166,Tryz.ntmps166;go_wp2_with fail
 go_quiet ((go_at_call 166;exact Calls.quiet_of (y.out _)))
 clear x f g h i j b;go_wp2_with fail;go_ret;exact⟨congrArg (fun s=>Ending.returned (Value.string s)) z.out,_,rfl⟩
theorem cX (n q:Int)(w:World)(o:n≤-10)(p: -9223372036854775808≤n)(r:n.tmod 10=0)(h:n.tdiv 10=q)(i: -922337203685477580≤q∧q<0)
 (c:∀ W,Cq 166 #[q] W fun e w'=>e= .returned (.string ⟨(Lib.itoa q).toArray⟩)∧∃ m,w'=W.drewN m)
 (d:(⟨(Lib.itoa q).toArray⟩:ByteArray)++digits.extract 0 1=⟨(Lib.itoa n).toArray⟩):
 Cq 166 #[n] w fun e w'=>e= .returned (.string ⟨(Lib.itoa n).toArray⟩)∧∃ m,w'=w.drewN m:=by
 have j:IntKind.i64.wrap (n.tdiv 10)=q:=by
  rw[h];exact IntWalk.i64_in _ (by omega)
 have f:(Lib.itoa q).length≤21:=Lib.itoa_length_le q (by omega) (by omega);obtain⟨t,g⟩:=ex (⟨(Lib.itoa q).toArray⟩:ByteArray);have a:t.size=(Lib.itoa q).length:=by rw[g];rfl
 have b:∀ W:World,(Op.stringOp .add t ((⟨#[48,49,50,51,52,53,54,55,56,57]⟩:ByteArray).extract 0 1)).run Tryz.prog W= .ok (.string (t++(⟨#[48,49,50,51,52,53,54,55,56,57]⟩:ByteArray).extract 0 1)) W:=by
  intro W;refine run_string_add_sum W _ _ ?_;rw[a,ByteArray.size_extract];omega
 rw[← g]at c d;have k:=Hq c;have l:=Hq d;clear c d g a f;go_enter Tryz.func166,Tryz.ntmps166;go_wp2_with fail
 go_quiet ((go_at_call 166;exact Calls.quiet_of (k.out _)))
 clear j b;go_wp2_with fail;go_ret;exact⟨congrArg (fun s=>Ending.returned (Value.string s)) l.out,_,rfl⟩
theorem P0 (k:Nat):∀ (n:Int) (w:World),n.natAbs≤k→-9223372036854775808≤n→n≤9223372036854775807→
 Cq 166 #[n] w fun e w'=>e= .returned (.string ⟨(Lib.itoa n).toArray⟩)∧∃ m,w'=w.drewN m:=by
 induction k with
 |zero=>exact fun n w d _ _=>Qo n w (by omega)
 |succ k ih=>
  intro n w d b f
  by_cases g:n.natAbs<10
  ·exact Qo n w g
  ·have h:=gY (n:=n) (by omega)
   have a:(⟨(Lib.itoa (n.tdiv 10)).toArray⟩:ByteArray)++digits.extract (n.natAbs%10) (n.natAbs%10+1)=⟨(Lib.itoa n).toArray⟩:=by
    rw[h,K1 _ (by omega)];exact jH _ _
   by_cases i:n<0
   ·obtain⟨c,j⟩:=bY i
    by_cases l:n.natAbs%10=0
    ·have o:n.tmod 10=0:=by omega
     rw[l]at a;exact cX n (n.tdiv 10) w (by omega) b o rfl (by omega) (fun W=>ih _ W (by omega) (by omega) (by omega)) a
    ·exact jJ n (n.tdiv 10) (n.natAbs%10) w (by omega) b (by omega) (by omega) j rfl (by omega) (fun W=>ih _ W (by omega) (by omega) (by omega)) a
   ·have c:n/10=n.tdiv 10:=by rw[Int.tdiv_eq_ediv_of_nonneg (by omega)]
    exact jI n (n.tdiv 10) (n.natAbs%10) w (by omega) f (by omega) (by omega) c (fun W=>ih _ W (by omega) (by omega) (by omega)) a
theorem Zj (s:ByteArray)(k:Nat)(h:k<s.size):D4 0 (s.data.toList.take (k+1))=if 48≤(s[k].toNat:Int)∧(s[k].toNat:Int)≤57 then 10*D4 0 (s.data.toList.take k)+s[k].toNat-48 else D4 0 (s.data.toList.take k):=by
 have e:s.data.toList.take (k+1)=s.data.toList.take k++[s[k]]:=by
  rw[List.take_succ_eq_append_getElem (by simpa using h)];rfl
 rw[e,M7];simp only[D4]
 by_cases a:48≤s[k].toNat∧s[k].toNat≤57
 ·rw[if_pos a,if_pos (by omega)]
 ·rw[if_neg a,if_neg (by omega)]
theorem jK (s:ByteArray)(a:s.size≤17)(k:Nat):0≤D4 0 (s.data.toList.take k)∧D4 0 (s.data.toList.take k)<100000000000000000:=by
 obtain⟨b,c⟩:=Wa (s.data.toList.take k) 0 (by omega);refine⟨b,Int.lt_of_lt_of_le c ?_⟩;have d:(s.data.toList.take k).length≤17:=by
  have:s.data.toList.length=s.size:=by simp
  rw[List.length_take];omega
 have:(10:Int)^(s.data.toList.take k).length≤10^17:=by exact_mod_cast Nat.pow_le_pow_right (n:=10) (by omega) d
 omega
def L7 (s:ByteArray)(n:Int):Int×Bool:=if Ur n&&decide (Lib.itoa n=s.data.toList)then(n,true)else(0,false)
theorem nY (s:ByteArray):s.data.toList.take s.size=s.data.toList:=List.take_of_length_le (by simp)
theorem Wn (s:ByteArray)(h:0<s.size):signed s.data.toList=if((s[0].toNat:Int)==45)=true then - D4 0 s.data.toList else D4 0 s.data.toList:=by
 have e:s.data.toList.head? =some s[0]:=by
  rw[List.head?_eq_getElem?,List.getElem?_eq_getElem (by simpa using h)];rfl
 unfold signed;rw[e]
 by_cases a:s[0]=45
 ·rw[if_pos (by rw[a]),if_pos (by rw[a];rfl)]
 ·rw[if_neg (by simpa using a),if_neg]
  intro b
  apply a
  have c:(s[0].toNat:Int)=45:=by simpa using b
  have d:s[0].toNat=45:=by exact_mod_cast c
  exact UInt8.toNat_inj.1 d
theorem Zk (s:ByteArray)(h:¬ 0<s.size):signed s.data.toList=D4 0 s.data.toList:=by
 have e:s.data.toList=[]:=List.eq_nil_of_length_eq_zero (by have a:s.data.toList.length=s.size:=(by simp);omega);rw[e];rfl
theorem Wo (s:ByteArray)(q:s.size≤17)(w:World):
 Cq 288 #[s] w fun e w'=>e=vV (L7 s (signed s.data.toList))∧∃ m,w'=w.drewN m:=by
 go_enter Tryz.func288,Tryz.ntmps288;go_wp2_with fail
 go_loop [4,5] (fun n i=>∃ k:Nat,k≤s.size∧i= .int .i64 k∧n= .int .i64 (D4 0 (s.data.toList.take k))) (fun _ i=>s.size-(intOf i).toNat)
 case atStart=>exact⟨0,Nat.zero_le _,rfl,rfl⟩
 case round=>
  obtain⟨k,C,rfl,rfl⟩:=hrel;obtain⟨g0,g1⟩:=jK s q k
  by_cases r:k<s.size
  ·have A:=Hq (Zj s k r)
   go_wp2_with fail
   all_goals
    go_round
    case rel=>exact⟨k+1,by omega,by go_num,by rw[A.out];first|(rw[if_pos (by omega)];done)|(rw[if_pos (by omega)];go_num)|(rw[if_neg (by omega)])⟩
    case measure=>simp[intOf];omega
  ·obtain rfl:k=s.size:=by omega
   have x:=Hq (nY s);generalize y:D4 0 (s.data.toList.take s.size)=g at g0 g1 ⊢;have o:D4 0 s.data.toList=g:=(by rw[← x.out];exact y);obtain⟨v,z,c⟩:∃ v:Int,signed s.data.toList=v∧((0<s.size∧((s[0]?.getD 0).toNat:Int)=45∧v= -g)∨(0<s.size∧((s[0]?.getD 0).toNat:Int)≠45∧v=g)∨(s.size=0∧v=g)):=by
    refine⟨_,rfl,?_⟩
    by_cases b:0<s.size
    ·rw[Wn s b,o,show s[0]?.getD 0=s[0] by simp[b]]
     by_cases a:(s[0].toNat:Int)=45
     ·exact .inl ⟨b,a,by rw[if_pos (by simpa using a)]⟩
     ·exact .inr (.inl ⟨b,a,by rw[if_neg (by simpa using a)]⟩)
    ·exact .inr (.inr ⟨by omega,by rw[Zk s b,o]⟩)
   have j:=Hq z;have B: -100000000000000000<v∧v<100000000000000000:=(by omega);obtain⟨v0,v1⟩:=B;clear z y o x
   cases p:Ur v
   ·have f:=Hq (show L7 s v=(0,false) by simp[L7,p])
    have l:=True.intro;rcases c with⟨b,a,rfl⟩|⟨b,a,rfl⟩|⟨b,rfl⟩
    ·have h:((s[0].toNat:Int)==45)=true:=by simpa[b]using a
     clear a
     go_wp2_with(go_at_call 321;refine(I2 _ _).mono ?_;rintro e w' ⟨rfl,rfl⟩)
     go_ret2;exact⟨by rw[j.out,f.out];rfl,0,rfl⟩
    ·have h:((s[0].toNat:Int)==45)=false:=by simpa[b]using a
     clear a
     go_wp2_with(go_at_call 321;refine(I2 _ _).mono ?_;rintro e w' ⟨rfl,rfl⟩)
     go_ret2;exact⟨by rw[j.out,f.out];rfl,0,rfl⟩
    ·go_wp2_with(go_at_call 321;refine(I2 _ _).mono ?_;rintro e w' ⟨rfl,rfl⟩)
     go_ret2;exact⟨by rw[j.out,f.out];rfl,0,rfl⟩
   ·by_cases d:Lib.itoa v=s.data.toList
    ·have f:=Hq (show L7 s v=(v,true) by simp[L7,p,d])
     have l:=Hq (show ∀ W,Cq 166 #[v] W fun e w'=>e= .returned (.string s)∧∃ m,w'=W.drewN m from fun W=>by
      have:=P0 v.natAbs v W (Nat.le_refl _) (by omega) (by omega)
      rwa[nX d]at this)
     clear d;rcases c with⟨b,a,rfl⟩|⟨b,a,rfl⟩|⟨b,rfl⟩
     ·have h:((s[0].toNat:Int)==45)=true:=by simpa[b]using a
      clear a
      go_wp2_with(first|(go_at_call 321;refine(I2 _ _).mono ?_;rintro e w' ⟨rfl,rfl⟩)|(go_at_call 166;refine(l.out _).mono ?_;rintro e w' ⟨rfl,m,rfl⟩))
      go_ret2;exact⟨by rw[j.out,f.out];rfl,_,rfl⟩
     ·have h:((s[0].toNat:Int)==45)=false:=by simpa[b]using a
      clear a
      go_wp2_with(first|(go_at_call 321;refine(I2 _ _).mono ?_;rintro e w' ⟨rfl,rfl⟩)|(go_at_call 166;refine(l.out _).mono ?_;rintro e w' ⟨rfl,m,rfl⟩))
      go_ret2;exact⟨by rw[j.out,f.out];rfl,_,rfl⟩
     ·go_wp2_with(first|(go_at_call 321;refine(I2 _ _).mono ?_;rintro e w' ⟨rfl,rfl⟩)|(go_at_call 166;refine(l.out _).mono ?_;rintro e w' ⟨rfl,m,rfl⟩))
      go_ret2;exact⟨by rw[j.out,f.out];rfl,_,rfl⟩
    ·have f:=Hq (show L7 s v=(0,false) by simp[L7,p,d])
     obtain⟨t,u⟩:∃ t:ByteArray,(⟨(Lib.itoa v).toArray⟩:ByteArray)=t:=⟨_,rfl⟩;have l:=Hq (show ∀ W,Cq 166 #[v] W fun e w'=>e= .returned (.string t)∧∃ m,w'=W.drewN m from fun W=>by
      have:=P0 v.natAbs v W (Nat.le_refl _) (by omega) (by omega)
      rwa[u]at this)
     have D:(t.toList==s.toList)=false:=by
      rw[ByteArray.toList_eq,ByteArray.toList_eq,← u]
      simpa using d
     clear d u;rcases c with⟨b,a,rfl⟩|⟨b,a,rfl⟩|⟨b,rfl⟩
     ·have h:((s[0].toNat:Int)==45)=true:=by simpa[b]using a
      clear a
      go_wp2_with(first|(go_at_call 321;refine(I2 _ _).mono ?_;rintro e w' ⟨rfl,rfl⟩)|(go_at_call 166;refine(l.out _).mono ?_;rintro e w' ⟨rfl,m,rfl⟩))
      go_ret2;exact⟨by rw[j.out,f.out];rfl,_,rfl⟩
     ·have h:((s[0].toNat:Int)==45)=false:=by simpa[b]using a
      clear a
      go_wp2_with(first|(go_at_call 321;refine(I2 _ _).mono ?_;rintro e w' ⟨rfl,rfl⟩)|(go_at_call 166;refine(l.out _).mono ?_;rintro e w' ⟨rfl,m,rfl⟩))
      go_ret2;exact⟨by rw[j.out,f.out];rfl,_,rfl⟩
     ·go_wp2_with(first|(go_at_call 321;refine(I2 _ _).mono ?_;rintro e w' ⟨rfl,rfl⟩)|(go_at_call 166;refine(l.out _).mono ?_;rintro e w' ⟨rfl,m,rfl⟩))
      go_ret2;exact⟨by rw[j.out,f.out];rfl,_,rfl⟩
theorem jL (s:ByteArray)(h:s.size≤17):L7 s (signed s.data.toList)=Dp s.data.toList:=by
 rw[← Us,Sn,if_neg (by have a:s.data.toList.length=s.size:=(by simp);omega)]
 rfl
theorem cY (s:ByteArray)(w:World)(b:s.size≤9223372036854775807):
 Cq 288 #[s] w fun e w'=>e=vV (Dp s.data.toList)∧∃ m,w'=w.drewN m:=by
 by_cases h:s.size≤17
 ·rw[← jL s h];exact Wo s h w
 ·have a:=Hq (show Dp s.data.toList=(0,false) by
   rw[← Us,Sn,if_pos (by have c:s.data.toList.length=s.size:=(by simp);omega)])
  go_enter Tryz.func288,Tryz.ntmps288;go_wp2_with fail;go_ret2;exact⟨by rw[a.out];rfl,0,rfl⟩
theorem uF (n:Int)(a: -9223372036854775808≤n)(b:n≤9223372036854775807)(w:World):
 Cr 166 #[n] w (.string (Ip n)):=by
 refine(P0 n.natAbs n w (Nat.le_refl _) a b).mono ?_;rintro e w' ⟨rfl,m,rfl⟩;exact⟨rfl,C5 _ _⟩
theorem qY (s:ByteArray)(a:s.size≤140737488355328)(w:World):
 Cr 288 #[s] w (.tuple #[.int .i64 (NumPlain.Dp s.data.toList).1,.bool (NumPlain.Dp s.data.toList).2]):=by
 refine(cY s w (by omega)).mono ?_;rintro e w' ⟨rfl,m,rfl⟩;exact⟨rfl,C5 _ _⟩
theorem Zl (p:ByteArray)(b:p.size≤140737488355328)(w:World):
 Cr 141 #[p] w (.string (Cj p 0)):=by
 have c:=Hq (fun W=>Gu p 0 b W);go_enter Tryz.func141,Tryz.ntmps141
 go_wp2_with((go_at_call 101;refine(c.out _).mono ?_;rintro e d ⟨rfl,a⟩))
 go_ret;exact⟨rfl,a⟩
theorem qZ (p:ByteArray)(o:Hf)(n:o.kind=1)(t:p.size≤140737488355328)(z:o.new.size≤140737488355328)(w:World):
 Cr 235 #[p,Ep o] w (.tuple #[.string (Cz p o).1,.bool (Cz p o).2]):=by
 have k:=Hq (C6 w o 83);have d:=Hq (fun W=>Dd p o.slot t W);obtain⟨R,q⟩:=ex (Cz p o);rw[← q];have a:=Hq (q.trans (show Cz p o=((Hk p o.slot o.new).1,decide ((Hk p o.slot o.new).2=0)&&decide (o.Bd.size=0)) by unfold Cz;rw[n];rfl));have c:=Hq (fun W=>Uq p o.slot o.new t W);generalize Hk p o.slot o.new=x at c a;obtain⟨s,ex⟩:=x;unfold Gm at c;dsimp only at c a;generalize (!decide ((Pg.Aw (Ab p).recs o.slot).size=0))=th at d a;generalize Pg.Aw (Ab p).recs o.slot=r at d a;obtain⟨kind,slot,Bd,new⟩:=o;dsimp only[Ep]at k d a n c ⊢;subst n;clear q;go_enter Tryz.func235,Tryz.ntmps235
 go_upto_region 7 with(first|(go_at_call 98;refine(d.out _).mono ?_;rintro e A ⟨rfl,b⟩;obtain⟨a0,u,a2,a3,-⟩:=(k.out.step b).v;dsimp only at a0 u a2 a3)|(go_at_call 59;refine(c.out _).mono ?_;rintro e B ⟨rfl,f⟩))
 have l:=Hq ((k.out.step b).step f);clear k b f a0 u a2 a3 c d;obtain⟨c0,c1,c2,c3,-⟩:=l.out.v;dsimp only at c0 c1 c2 c3
 by_cases m:ex=0
 ·subst m
  by_cases hold:Bd.size=0
  ·obtain⟨g,h,i⟩:=Fg hold
   have j:=Hq (a.out.trans (show _=(s,true) by simp[hold]));clear a hold
   go_quiet (fail)
   go_wp2_with fail;go_ret2;exact⟨by rw[j.out];rfl,Ae l.out.below (C5 _ _)⟩
  ·obtain⟨g,h,i⟩:=En hold
   have j:=Hq (a.out.trans (show _=(s,false) by simp[hold]));clear a hold
   go_quiet (fail)
   go_wp2_with fail;go_ret2;exact⟨by rw[j.out];rfl,Ae l.out.below (C5 _ _)⟩
 ·have y:(ex==0)=false:=by simpa using m
  have j:=Hq (a.out.trans (show _=(s,false) by simp[m]));clear a m
  go_quiet (fail)
  go_wp2_with fail;go_ret2;exact⟨by rw[j.out];rfl,Ae l.out.below (C5 _ _)⟩
theorem rC (p:ByteArray)(o:Hf)(s:o.kind=2)(u:p.size≤140737488355328)(C:o.new.size≤140737488355328)(w:World):
 Cr 235 #[p,Ep o] w (.tuple #[.string (Cz p o).1,.bool (Cz p o).2]):=by
 have m:=Hq (C6 w o 83);have h:=Hq (fun W=>Dd p o.slot u W);obtain⟨R,t⟩:=ex (Cz p o);rw[← t];have b:=Hq (t.trans (show Cz p o=((Jp p o.slot).1,((decide ((Jp p o.slot).2=0)&&decide (o.new.size=0))&& !decide ((I1 p o).size=0))&&decide (I1 p o=o.Bd)) by unfold Cz;rw[s];rfl));have f:=Hq (fun W=>gS p o.slot u W);generalize Jp p o.slot=x at f b;obtain⟨i,ex⟩:=x;unfold Gm at f;dsimp only at f b;unfold I1 at b;generalize (!decide ((Pg.Aw (Ab p).recs o.slot).size=0))=z at h b;generalize Pg.Aw (Ab p).recs o.slot=r at h b;obtain⟨kind,slot,Bd,new⟩:=o;dsimp only[Ep]at m h b s f ⊢;subst s;clear t;go_enter Tryz.func235,Tryz.ntmps235
 go_upto_region 10 with(first|(go_at_call 98;refine(h.out _).mono ?_;rintro e D ⟨rfl,d⟩;obtain⟨a0,y,a2,a3,-⟩:=(m.out.step d).v;dsimp only at a0 y a2 a3)|(go_at_call 285;refine(f.out _).mono ?_;rintro e E ⟨rfl,j⟩))
 have g:=Hq ((m.out.step d).step j);clear m d j a0 y a2 a3 f h;obtain⟨c0,c1,c2,c3,-⟩:=g.out.v;dsimp only at c0 c1 c2 c3
 by_cases n:ex=0
 ·subst n
  by_cases a:new.size=0
  ·obtain⟨k,Gd,l⟩:=Fg a
   cases z with
   |true=>
    by_cases q:r=Bd
    ·subst q
     have A:(r.toList==r.toList)=true:=beq_self_eq_true _;have c:=Hq (b.out.trans (show _=(i,true) by simp[a]));clear b a
     go_quiet (fail)
     go_wp2_with fail;go_ret2;exact⟨by rw[c.out];rfl,Ae g.out.below (C5 _ _)⟩
    ·have A:=Et q
     have c:=Hq (b.out.trans (show _=(i,false) by simp[a,q]));clear b a q
     go_quiet (fail)
     go_wp2_with fail;go_ret2;exact⟨by rw[c.out];rfl,Ae g.out.below (C5 _ _)⟩
   |false=>
    have c:=Hq (b.out.trans (show _=(i,false) by simp[a]));clear b a
    go_quiet (fail)
    go_wp2_with fail;go_ret2;exact⟨by rw[c.out];rfl,Ae g.out.below (C5 _ _)⟩
  ·obtain⟨k,Gd,l⟩:=En a
   have c:=Hq (b.out.trans (show _=(i,false) by simp[a]));clear b a
   go_quiet (fail)
   go_wp2_with fail;go_ret2;exact⟨by rw[c.out];rfl,Ae g.out.below (C5 _ _)⟩
 ·have B:(ex==0)=false:=by simpa using n
  have c:=Hq (b.out.trans (show _=(i,false) by simp[n]));clear b n
  go_quiet (fail)
  go_wp2_with fail;go_ret2;exact⟨by rw[c.out];rfl,Ae g.out.below (C5 _ _)⟩
theorem rD (p:ByteArray)(o:Hf)(m:o.kind=3)(q:p.size≤140737488355328)(z:o.new.size≤140737488355328)(w:World):
 Cr 235 #[p,Ep o] w (.tuple #[.string (Cz p o).1,.bool (Cz p o).2]):=by
 have i:=Hq (C6 w o 83);have f:=Hq (fun W=>Dd p o.slot q W);obtain⟨R,n⟩:=ex (Cz p o);rw[← n];have a:=Hq (n.trans (show Cz p o=((Iu p o.slot o.new).1,(decide ((Iu p o.slot o.new).2=0)&& !decide ((I1 p o).size=0))&&decide (I1 p o=o.Bd)) by unfold Cz;rw[m];rfl));have d:=Hq (fun W=>gT p o.slot o.new q W);generalize Iu p o.slot o.new=x at d a;obtain⟨j,ex⟩:=x;unfold Gm at d;dsimp only at d a;unfold I1 at a;generalize (!decide ((Pg.Aw (Ab p).recs o.slot).size=0))=t at f a;generalize Pg.Aw (Ab p).recs o.slot=r at f a;obtain⟨kind,slot,Bd,new⟩:=o;dsimp only[Ep]at i f a m d ⊢;subst m;clear n;go_enter Tryz.func235,Tryz.ntmps235
 go_upto_region 13 with(first|(go_at_call 98;refine(f.out _).mono ?_;rintro e A ⟨rfl,b⟩;obtain⟨a0,s,a2,a3,-⟩:=(i.out.step b).v;dsimp only at a0 s a2 a3)|(go_at_call 97;refine(d.out _).mono ?_;rintro e B ⟨rfl,g⟩))
 have h:=Hq ((i.out.step b).step g);clear i b g a0 s a2 a3 d f;obtain⟨c0,c1,c2,c3,-⟩:=h.out.v;dsimp only at c0 c1 c2 c3
 by_cases k:ex=0
 ·subst k
  cases t with
  |true=>
   by_cases l:r=Bd
   ·subst l
    have u:(r.toList==r.toList)=true:=beq_self_eq_true _;have c:=Hq (a.out.trans (show _=(j,true) by simp[]));clear a
    go_quiet (fail)
    go_wp2_with fail;go_ret2;exact⟨by rw[c.out];rfl,Ae h.out.below (C5 _ _)⟩
   ·have u:=Et l
    have c:=Hq (a.out.trans (show _=(j,false) by simp[l]));clear a l
    go_quiet (fail)
    go_wp2_with fail;go_ret2;exact⟨by rw[c.out];rfl,Ae h.out.below (C5 _ _)⟩
  |false=>
   have c:=Hq (a.out.trans (show _=(j,false) by simp[]));clear a
   go_quiet (fail)
   go_wp2_with fail;go_ret2;exact⟨by rw[c.out];rfl,Ae h.out.below (C5 _ _)⟩
 ·have y:(ex==0)=false:=by simpa using k
  have c:=Hq (a.out.trans (show _=(j,false) by simp[k]));clear a k
  go_quiet (fail)
  go_wp2_with fail;go_ret2;exact⟨by rw[c.out];rfl,Ae h.out.below (C5 _ _)⟩
theorem rE (p:ByteArray)(o:Hf)(n:o.kind=4)(t:p.size≤140737488355328)(z:o.new.size≤140737488355328)(w:World):
 Cr 235 #[p,Ep o] w (.tuple #[.string (Cz p o).1,.bool (Cz p o).2]):=by
 have k:=Hq (C6 w o 83);have d:=Hq (fun W=>Dd p o.slot t W);obtain⟨R,q⟩:=ex (Cz p o);rw[← q];have a:=Hq (q.trans (show Cz p o=((I0 p o.slot o.new).1,decide ((I0 p o.slot o.new).2=0)&&decide (o.Bd.size=0)) by unfold Cz;rw[n];rfl));have c:=Hq (fun W=>gU p o.slot o.new t W);generalize I0 p o.slot o.new=x at c a;obtain⟨s,ex⟩:=x;unfold Gm at c;dsimp only at c a;generalize (!decide ((Pg.Aw (Ab p).recs o.slot).size=0))=th at d a;generalize Pg.Aw (Ab p).recs o.slot=r at d a;obtain⟨kind,slot,Bd,new⟩:=o;dsimp only[Ep]at k d a n c ⊢;subst n;clear q;go_enter Tryz.func235,Tryz.ntmps235
 go_upto_region 16 with(first|(go_at_call 98;refine(d.out _).mono ?_;rintro e A ⟨rfl,b⟩;obtain⟨a0,u,a2,a3,-⟩:=(k.out.step b).v;dsimp only at a0 u a2 a3)|(go_at_call 286;refine(c.out _).mono ?_;rintro e B ⟨rfl,f⟩))
 have l:=Hq ((k.out.step b).step f);clear k b f a0 u a2 a3 c d;obtain⟨c0,c1,c2,c3,-⟩:=l.out.v;dsimp only at c0 c1 c2 c3
 by_cases m:ex=0
 ·subst m
  by_cases hold:Bd.size=0
  ·obtain⟨g,h,i⟩:=Fg hold
   have j:=Hq (a.out.trans (show _=(s,true) by simp[hold]));clear a hold
   go_quiet (fail)
   go_wp2_with fail;go_ret2;exact⟨by rw[j.out];rfl,Ae l.out.below (C5 _ _)⟩
  ·obtain⟨g,h,i⟩:=En hold
   have j:=Hq (a.out.trans (show _=(s,false) by simp[hold]));clear a hold
   go_quiet (fail)
   go_wp2_with fail;go_ret2;exact⟨by rw[j.out];rfl,Ae l.out.below (C5 _ _)⟩
 ·have y:(ex==0)=false:=by simpa using m
  have j:=Hq (a.out.trans (show _=(s,false) by simp[m]));clear a m
  go_quiet (fail)
  go_wp2_with fail;go_ret2;exact⟨by rw[j.out];rfl,Ae l.out.below (C5 _ _)⟩
theorem rF (p:ByteArray)(o:Hf)(s:o.kind=5)(u:p.size≤140737488355328)(C:o.new.size≤140737488355328)(w:World):
 Cr 235 #[p,Ep o] w (.tuple #[.string (Cz p o).1,.bool (Cz p o).2]):=by
 have m:=Hq (C6 w o 83);have h:=Hq (fun W=>Dd p o.slot u W);obtain⟨R,t⟩:=ex (Cz p o);rw[← t];have b:=Hq (t.trans (show Cz p o=((Jr p o.slot).1,((decide ((Jr p o.slot).2=0)&&decide (o.new.size=0))&& !decide ((I1 p o).size=0))&&decide (I1 p o=o.Bd)) by unfold Cz;rw[s];rfl));have f:=Hq (fun W=>gV p o.slot u W);generalize Jr p o.slot=x at f b;obtain⟨i,ex⟩:=x;unfold Gm at f;dsimp only at f b;unfold I1 at b;generalize (!decide ((Pg.Aw (Ab p).recs o.slot).size=0))=z at h b;generalize Pg.Aw (Ab p).recs o.slot=r at h b;obtain⟨kind,slot,Bd,new⟩:=o;dsimp only[Ep]at m h b s f ⊢;subst s;clear t;go_enter Tryz.func235,Tryz.ntmps235
 go_upto_region 19 with(first|(go_at_call 98;refine(h.out _).mono ?_;rintro e D ⟨rfl,d⟩;obtain⟨a0,y,a2,a3,-⟩:=(m.out.step d).v;dsimp only at a0 y a2 a3)|(go_at_call 287;refine(f.out _).mono ?_;rintro e E ⟨rfl,j⟩))
 have g:=Hq ((m.out.step d).step j);clear m d j a0 y a2 a3 f h;obtain⟨c0,c1,c2,c3,-⟩:=g.out.v;dsimp only at c0 c1 c2 c3
 by_cases n:ex=0
 ·subst n
  by_cases a:new.size=0
  ·obtain⟨k,Gd,l⟩:=Fg a
   cases z with
   |true=>
    by_cases q:r=Bd
    ·subst q
     have A:(r.toList==r.toList)=true:=beq_self_eq_true _;have c:=Hq (b.out.trans (show _=(i,true) by simp[a]));clear b a
     go_quiet (fail)
     go_wp2_with fail;go_ret2;exact⟨by rw[c.out];rfl,Ae g.out.below (C5 _ _)⟩
    ·have A:=Et q
     have c:=Hq (b.out.trans (show _=(i,false) by simp[a,q]));clear b a q
     go_quiet (fail)
     go_wp2_with fail;go_ret2;exact⟨by rw[c.out];rfl,Ae g.out.below (C5 _ _)⟩
   |false=>
    have c:=Hq (b.out.trans (show _=(i,false) by simp[a]));clear b a
    go_quiet (fail)
    go_wp2_with fail;go_ret2;exact⟨by rw[c.out];rfl,Ae g.out.below (C5 _ _)⟩
  ·obtain⟨k,Gd,l⟩:=En a
   have c:=Hq (b.out.trans (show _=(i,false) by simp[a]));clear b a
   go_quiet (fail)
   go_wp2_with fail;go_ret2;exact⟨by rw[c.out];rfl,Ae g.out.below (C5 _ _)⟩
 ·have B:(ex==0)=false:=by simpa using n
  have c:=Hq (b.out.trans (show _=(i,false) by simp[n]));clear b n
  go_quiet (fail)
  go_wp2_with fail;go_ret2;exact⟨by rw[c.out];rfl,Ae g.out.below (C5 _ _)⟩
theorem cZ (p:ByteArray)(o:Hf)(d:¬ (1≤o.kind∧o.kind≤7))(h:p.size≤140737488355328)(j:o.new.size≤140737488355328)(w:World):
 Cr 235 #[p,Ep o] w (.tuple #[.string (Cz p o).1,.bool (Cz p o).2]):=by
 have b:=Hq (C6 w o 83);have f:=Hq (fun W=>Dd p o.slot h W);obtain⟨R,c⟩:=ex (Cz p o);rw[← c];have g:=Hq (c.trans (show Cz p o=Da by unfold Cz;rw[if_neg (by omega),if_neg (by omega),if_neg (by omega),if_neg (by omega),if_neg (by omega),if_neg (by omega),if_neg (by omega)]));obtain⟨kind,slot,Bd,new⟩:=o;dsimp only[Ep]at b f g d ⊢;have k:(kind==1)=false:=by simp;omega
 have l:(kind==2)=false:=by simp;omega
 have m:(kind==3)=false:=by simp;omega
 have n:(kind==4)=false:=by simp;omega
 have q:(kind==5)=false:=by simp;omega
 have r:(kind==6)=false:=by simp;omega
 have s:(kind==7)=false:=by simp;omega
 clear c d;go_enter Tryz.func235,Tryz.ntmps235
 go_wp2_with((go_at_call 98;refine(f.out _).mono ?_;rintro e t ⟨rfl,a⟩;obtain⟨a0,i,a2,a3,-⟩:=(b.out.step a).v;dsimp only at a0 i a2 a3))
 go_ret2;exact⟨by rw[g.out];rfl,(b.out.step a).below⟩
theorem rG (p:ByteArray)(o:Hf)(x:o.kind=6)(z:p.size≤140737488355328)(G:o.new.size≤140737488355328)(w:World):
 Cr 235 #[p,Ep o] w (.tuple #[.string (Cz p o).1,.bool (Cz p o).2]):=by
 have m:=Hq (C6 w o 83);have A:=Hq (fun W=>Dd p o.slot z W);obtain⟨R,B⟩:=ex (Cz p o);rw[← B];have d:=Hq (B.trans (show Cz p o=(Dy p (NumPlain.Dp o.new.data.toList).1,(((NumPlain.Dp o.new.data.toList).2&& !decide ((Dy p (NumPlain.Dp o.new.data.toList).1).size=0))&&decide (o.slot=0))&&decide (o.Bd=Ip ((Ab p).link:Nat))) by unfold Cz;rw[x];rfl));have k:=Hq (fun W=>qY o.new G W);generalize NumPlain.Dp o.new.data.toList=y at k d;obtain⟨n,ok⟩:=y;have C:=Hq (fun W=>Vt p n z W);have D:=Hq (fun W=>gB p z W);have r:=Hq (fun W=>uF ((Ab p).link:Nat) (by omega) (by have:=Jk p;omega) W);dsimp only at k d;generalize Dy p n=q at C d;generalize Ip ((Ab p).link:Nat)=lt at r d;generalize ((Ab p).link:Nat)=lk at r D;obtain⟨kind,slot,Bd,new⟩:=o;dsimp only[Ep]at m A d x k ⊢;subst x;clear B;go_enter Tryz.func235,Tryz.ntmps235
 go_upto_region 23 with(first|(go_at_call 98;refine(A.out _).mono ?_;rintro e M ⟨rfl,j⟩;obtain⟨a0,F,a2,a3,-⟩:=(m.out.step j).v;dsimp only at a0 F a2 a3)|(go_at_call 288;refine(k.out _).mono ?_;rintro e s ⟨rfl,b⟩)|(go_at_call 289;refine(C.out _).mono ?_;rintro e N ⟨rfl,l⟩))
 have c:=Hq (((m.out.step j).step b).step l);clear m j b l a0 F a2 a3 k C A
 cases ok with
 |false=>
  have h:=Hq (d.out.trans (show _=(q,false) by simp[]));clear d;refine E4 (S:=(fun u=>Er w.heap.size ⟨6,slot,Bd,new⟩ w u)) (fun a=>?_) (by first|exact hSn|exact c.out.v|exact(c.out.step (Below.refl _ _).drew).v);refine tkQ 0 ?_;refine tkQ 1 ?_;refine tkQ 2 ?_;refine Dx 3 (some 148) rfl ?_
  try simp only[Act.put,pS]
  refine Dx 4 (some 149) rfl ?_
  try simp only[Act.put,pS]
  refine tkQ 5 ?_;refine tkQ 6 ?_;refine Dx 7 (some 152) rfl ?_
  try simp only[Act.put,pS]
  refine Dx 8 (some 153) rfl ?_
  try simp only[Act.put,pS]
  refine Dx 9 (some 154) rfl ?_
  try simp only[Act.put,pS]
  refine tkQ 10 ?_;refine tkQ 11 ?_;refine Dx 12 (some 157) rfl ?_
  try simp only[Act.put,pS]
  refine Dx 13 (some 158) rfl ?_
  try simp only[Act.put,pS]
  refine Dx 14 (some 159) rfl ?_
  try simp only[Act.put,pS]
  refine Dx 15 (some 160) rfl ?_
  try simp only[Act.put,pS]
  refine Dx 16 (some 161) rfl ?_
  try simp only[Act.put,pS]
  refine Dx 17 (some 162) rfl ?_
  try simp only[Act.put,pS]
  refine tkQ 18 ?_;refine tkQ 19 ?_;refine tkQ 20 ?_;refine wpAnyH_done Kr ?_ _;go_wp2_with fail;go_ret2;exact⟨by rw[h.out];rfl,a.2.2.2.2.below⟩
 |true=>
  by_cases g:q.size=0
  ·obtain⟨H,I,J⟩:=Fg g
   have h:=Hq (d.out.trans (show _=(q,false) by simp[g]));clear d g;refine E4 (S:=(fun u=>Er w.heap.size ⟨6,slot,Bd,new⟩ w u)) (fun a=>?_) (by first|exact hSn|exact c.out.v|exact(c.out.step (Below.refl _ _).drew).v);refine tkQ 0 ?_;refine tkQ 1 ?_;refine tkQ 2 ?_;refine tkQ 3 ?_;refine tkQ 4 ?_;refine tkQ 5 ?_;refine tkQ 6 ?_;refine Dx 7 (some 152) rfl ?_
   try simp only[Act.put,pS]
   refine Dx 8 (some 153) rfl ?_
   try simp only[Act.put,pS]
   refine Dx 9 (some 154) rfl ?_
   try simp only[Act.put,pS]
   refine tkQ 10 ?_;refine tkQ 11 ?_;refine Dx 12 (some 157) rfl ?_
   try simp only[Act.put,pS]
   refine Dx 13 (some 158) rfl ?_
   try simp only[Act.put,pS]
   refine Dx 14 (some 159) rfl ?_
   try simp only[Act.put,pS]
   refine Dx 15 (some 160) rfl ?_
   try simp only[Act.put,pS]
   refine Dx 16 (some 161) rfl ?_
   try simp only[Act.put,pS]
   refine Dx 17 (some 162) rfl ?_
   try simp only[Act.put,pS]
   refine tkQ 18 ?_;refine tkQ 19 ?_;refine tkQ 20 ?_;refine wpAnyH_done Kr ?_ _;go_wp2_with fail;go_ret2;exact⟨by rw[h.out];rfl,a.2.2.2.2.below⟩
  ·obtain⟨H,I,J⟩:=En g
   by_cases i:slot=0
   ·have E:(slot==0)=true:=by simp[i]
    by_cases t:Bd=lt
    ·subst t
     have L:(Bd.toList==Bd.toList)=true:=beq_self_eq_true _;have h:=Hq (d.out.trans (show _=(q,true) by simp[g,i]));clear d g i;refine E4 (S:=(fun u=>Er w.heap.size ⟨6,slot,Bd,new⟩ w u)) (fun a=>?_) (by first|exact hSn|exact c.out.v|exact(c.out.step (Below.refl _ _).drew).v);refine tkQ 0 ?_;refine tkQ 1 ?_;refine tkQ 2 ?_;refine tkQ 3 ?_;refine tkQ 4 ?_;refine tkQ 5 ?_;refine tkQ 6 ?_;refine tkQ 7 ?_;refine tkQ 8 ?_;refine tkQ 9 ?_;refine tkQ 10 ?_;refine tkQ 11 ?_;refine tkQ 12 ?_;refine tkQ 13 ?_;refine tkQ 14 ?_;refine Bx 15 fun K f=>?_
     go_simp
     refine(D.out _).mono ?_;rintro e s ⟨rfl,b⟩;have hSn:=(a.2.2.2.2.step b).v;clear a b;try go_simp
     refine Bl f (fun a=>?_) (by first|exact hSn|exact c.out.v|exact(c.out.step (Below.refl _ _).drew).v);clear f K;refine Bx 16 fun K f=>?_
     go_simp
     refine(r.out _).mono ?_;rintro e s ⟨rfl,b⟩;have hSn:=(a.2.2.2.2.step b).v;clear a b;try go_simp
     refine Bl f (fun a=>?_) (by first|exact hSn|exact c.out.v|exact(c.out.step (Below.refl _ _).drew).v);clear f K;refine tkQ 17 ?_;refine tkQ 18 ?_;refine tkQ 19 ?_;refine tkQ 20 ?_;refine wpAnyH_done Kr ?_ _;go_wp2_with fail;go_ret2;exact⟨by rw[h.out];rfl,a.2.2.2.2.below⟩
    ·have L:=Et t
     have h:=Hq (d.out.trans (show _=(q,false) by simp[g,i,t]));clear d g i t;refine E4 (S:=(fun u=>Er w.heap.size ⟨6,slot,Bd,new⟩ w u)) (fun a=>?_) (by first|exact hSn|exact c.out.v|exact(c.out.step (Below.refl _ _).drew).v);refine tkQ 0 ?_;refine tkQ 1 ?_;refine tkQ 2 ?_;refine tkQ 3 ?_;refine tkQ 4 ?_;refine tkQ 5 ?_;refine tkQ 6 ?_;refine tkQ 7 ?_;refine tkQ 8 ?_;refine tkQ 9 ?_;refine tkQ 10 ?_;refine tkQ 11 ?_;refine tkQ 12 ?_;refine tkQ 13 ?_;refine tkQ 14 ?_;refine Bx 15 fun K f=>?_
     go_simp
     refine(D.out _).mono ?_;rintro e s ⟨rfl,b⟩;have hSn:=(a.2.2.2.2.step b).v;clear a b;try go_simp
     refine Bl f (fun a=>?_) (by first|exact hSn|exact c.out.v|exact(c.out.step (Below.refl _ _).drew).v);clear f K;refine Bx 16 fun K f=>?_
     go_simp
     refine(r.out _).mono ?_;rintro e s ⟨rfl,b⟩;have hSn:=(a.2.2.2.2.step b).v;clear a b;try go_simp
     refine Bl f (fun a=>?_) (by first|exact hSn|exact c.out.v|exact(c.out.step (Below.refl _ _).drew).v);clear f K;refine tkQ 17 ?_;refine tkQ 18 ?_;refine tkQ 19 ?_;refine tkQ 20 ?_;refine wpAnyH_done Kr ?_ _;go_wp2_with fail;go_ret2;exact⟨by rw[h.out];rfl,a.2.2.2.2.below⟩
   ·have E:(slot==0)=false:=by simpa using i
    have h:=Hq (d.out.trans (show _=(q,false) by simp[g,i]));clear d g i;refine E4 (S:=(fun u=>Er w.heap.size ⟨6,slot,Bd,new⟩ w u)) (fun a=>?_) (by first|exact hSn|exact c.out.v|exact(c.out.step (Below.refl _ _).drew).v);refine tkQ 0 ?_;refine tkQ 1 ?_;refine tkQ 2 ?_;refine tkQ 3 ?_;refine tkQ 4 ?_;refine tkQ 5 ?_;refine tkQ 6 ?_;refine tkQ 7 ?_;refine tkQ 8 ?_;refine tkQ 9 ?_;refine tkQ 10 ?_;refine tkQ 11 ?_;refine Dx 12 (some 157) rfl ?_
    try simp only[Act.put,pS]
    refine Dx 13 (some 158) rfl ?_
    try simp only[Act.put,pS]
    refine Dx 14 (some 159) rfl ?_
    try simp only[Act.put,pS]
    refine Dx 15 (some 160) rfl ?_
    try simp only[Act.put,pS]
    refine Dx 16 (some 161) rfl ?_
    try simp only[Act.put,pS]
    refine Dx 17 (some 162) rfl ?_
    try simp only[Act.put,pS]
    refine tkQ 18 ?_;refine tkQ 19 ?_;refine tkQ 20 ?_;refine wpAnyH_done Kr ?_ _;go_wp2_with fail;go_ret2;exact⟨by rw[h.out];rfl,a.2.2.2.2.below⟩
theorem rH (p:ByteArray)(o:Hf)(t:o.kind=7)(x:p.size≤140737488355328)(E:o.new.size≤140737488355328)(w:World):
 Cr 235 #[p,Ep o] w (.tuple #[.string (Cz p o).1,.bool (Cz p o).2]):=by
 have n:=Hq (C6 w o 83);have y:=Hq (fun W=>Dd p o.slot x W);obtain⟨R,z⟩:=ex (Cz p o);rw[← z];have f:=Hq (z.trans (show Cz p o=(Cj o.new ((Ab p).lsn:Nat),((!decide ((Cj o.new ((Ab p).lsn:Nat)).size=0)&&decide (o.slot=0))&&decide (o.new=Cj o.new 0))&&decide (o.Bd=Cj p 0)) by unfold Cz;rw[t];rfl));have A:=Hq (fun W=>N4 p x W);have l:=Hq (fun W=>Gu o.new ((Ab p).lsn:Nat) E W);have m:=Hq (fun W=>Zl o.new E W);have B:=Hq (fun W=>Zl p x W);generalize Cj o.new ((Ab p).lsn:Nat)=q at l f;generalize ((Ab p).lsn:Nat)=ln at A l;generalize Cj o.new 0=nb at m f;generalize Cj p 0=pb at B f;obtain⟨kind,slot,Bd,new⟩:=o;dsimp only[Ep]at n y f t l m ⊢;subst t;clear z;go_enter Tryz.func235,Tryz.ntmps235
 go_upto_region 25 with(go_at_call 98;refine(y.out _).mono ?_;rintro e M ⟨rfl,j⟩;obtain⟨a0,F,a2,a3,-⟩:=(n.out.step j).v;dsimp only at a0 F a2 a3)
 have c:=Hq (n.out.step j);clear n j a0 F a2 a3 y;refine E4 (S:=(fun u=>Er w.heap.size ⟨7,slot,Bd,new⟩ w u)) (fun a=>?_) (by first|exact hSn|exact c.out.v|exact(c.out.step (Below.refl _ _).drew).v);refine tkQ 0 ?_;refine tkQ 1 ?_;refine tkQ 2 ?_;refine Bx 3 fun K d=>?_
 go_simp
 refine(A.out _).mono ?_;rintro e k ⟨rfl,b⟩;have hSn:=(a.2.2.2.2.step b).v;clear a b;try go_simp
 refine Bl d (fun a=>?_) (by first|exact hSn|exact c.out.v|exact(c.out.step (Below.refl _ _).drew).v);clear d K;refine Bx 4 fun K d=>?_
 go_simp
 refine(l.out _).mono ?_;rintro e k ⟨rfl,b⟩;have hSn:=(a.2.2.2.2.step b).v;clear a b;try go_simp
 refine Bl d (fun a=>?_) (by first|exact hSn|exact c.out.v|exact(c.out.step (Below.refl _ _).drew).v);clear d K;refine tkQ 5 ?_;refine wpAnyH_done Kr ?_ _;have G:=Hq a.2.2.2.2;clear a hSn c A l;have c:=G;clear G;go_upto_region 26 with fail
 by_cases g:q.size=0
 ·obtain⟨H,I,J⟩:=Fg g
  have i:=Hq (f.out.trans (show _=(q,false) by simp[g]));clear f g;refine E4 (S:=(fun u=>Er w.heap.size ⟨7,slot,Bd,new⟩ w u)) (fun a=>?_) (by first|exact hSn|exact c.out.v|exact(c.out.step (Below.refl _ _).drew).v);refine tkQ 0 ?_;refine tkQ 1 ?_;refine tkQ 2 ?_;refine tkQ 3 ?_;refine Dx 4 (some 175) rfl ?_
  try simp only[Act.put,pS]
  refine Dx 5 (some 176) rfl ?_
  try simp only[Act.put,pS]
  refine Dx 6 (some 177) rfl ?_
  try simp only[Act.put,pS]
  refine tkQ 7 ?_;refine tkQ 8 ?_;refine Dx 9 (some 180) rfl ?_
  try simp only[Act.put,pS]
  refine Dx 10 (some 181) rfl ?_
  try simp only[Act.put,pS]
  refine Dx 11 (some 182) rfl ?_
  try simp only[Act.put,pS]
  refine Dx 12 (some 183) rfl ?_
  try simp only[Act.put,pS]
  refine Dx 13 (some 184) rfl ?_
  try simp only[Act.put,pS]
  refine Dx 14 (some 185) rfl ?_
  try simp only[Act.put,pS]
  refine tkQ 15 ?_;refine tkQ 16 ?_;refine Dx 17 (some 188) rfl ?_
  try simp only[Act.put,pS]
  refine Dx 18 (some 189) rfl ?_
  try simp only[Act.put,pS]
  refine Dx 19 (some 190) rfl ?_
  try simp only[Act.put,pS]
  refine Dx 20 (some 191) rfl ?_
  try simp only[Act.put,pS]
  refine Dx 21 (some 192) rfl ?_
  try simp only[Act.put,pS]
  refine tkQ 22 ?_;refine tkQ 23 ?_;refine tkQ 24 ?_;refine wpAnyH_done Kr ?_ _;go_wp2_with fail;go_ret2;exact⟨by rw[i.out];rfl,a.2.2.2.2.below⟩
 ·obtain⟨H,I,J⟩:=En g
  by_cases h:slot=0
  ·have C:(slot==0)=true:=by simp[h]
   by_cases r:new=nb
   ·subst r
    have L:(new.toList==new.toList)=true:=beq_self_eq_true _
    by_cases s:Bd=pb
    ·subst s
     have D:(Bd.toList==Bd.toList)=true:=beq_self_eq_true _;have i:=Hq (f.out.trans (show _=(q,true) by simp[g,h]));clear f g h;refine E4 (S:=(fun u=>Er w.heap.size ⟨7,slot,Bd,new⟩ w u)) (fun a=>?_) (by first|exact hSn|exact c.out.v|exact(c.out.step (Below.refl _ _).drew).v);refine tkQ 0 ?_;refine tkQ 1 ?_;refine tkQ 2 ?_;refine tkQ 3 ?_;refine tkQ 4 ?_;refine tkQ 5 ?_;refine tkQ 6 ?_;refine tkQ 7 ?_;refine tkQ 8 ?_;refine tkQ 9 ?_;refine tkQ 10 ?_;refine tkQ 11 ?_;refine tkQ 12 ?_;refine Bx 13 fun K d=>?_
     go_simp
     refine(m.out _).mono ?_;rintro e k ⟨rfl,b⟩;have hSn:=(a.2.2.2.2.step b).v;clear a b;try go_simp
     refine Bl d (fun a=>?_) (by first|exact hSn|exact c.out.v|exact(c.out.step (Below.refl _ _).drew).v);clear d K;refine tkQ 14 ?_;refine tkQ 15 ?_;refine tkQ 16 ?_;refine tkQ 17 ?_;refine tkQ 18 ?_;refine tkQ 19 ?_;refine Bx 20 fun K d=>?_
     go_simp
     refine(B.out _).mono ?_;rintro e k ⟨rfl,b⟩;have hSn:=(a.2.2.2.2.step b).v;clear a b;try go_simp
     refine Bl d (fun a=>?_) (by first|exact hSn|exact c.out.v|exact(c.out.step (Below.refl _ _).drew).v);clear d K;refine tkQ 21 ?_;refine tkQ 22 ?_;refine tkQ 23 ?_;refine tkQ 24 ?_;refine wpAnyH_done Kr ?_ _;go_wp2_with fail;go_ret2;exact⟨by rw[i.out];rfl,a.2.2.2.2.below⟩
    ·have D:=Et s
     have i:=Hq (f.out.trans (show _=(q,false) by simp[g,h,s]));clear f g h s;refine E4 (S:=(fun u=>Er w.heap.size ⟨7,slot,Bd,new⟩ w u)) (fun a=>?_) (by first|exact hSn|exact c.out.v|exact(c.out.step (Below.refl _ _).drew).v);refine tkQ 0 ?_;refine tkQ 1 ?_;refine tkQ 2 ?_;refine tkQ 3 ?_;refine tkQ 4 ?_;refine tkQ 5 ?_;refine tkQ 6 ?_;refine tkQ 7 ?_;refine tkQ 8 ?_;refine tkQ 9 ?_;refine tkQ 10 ?_;refine tkQ 11 ?_;refine tkQ 12 ?_;refine Bx 13 fun K d=>?_
     go_simp
     refine(m.out _).mono ?_;rintro e k ⟨rfl,b⟩;have hSn:=(a.2.2.2.2.step b).v;clear a b;try go_simp
     refine Bl d (fun a=>?_) (by first|exact hSn|exact c.out.v|exact(c.out.step (Below.refl _ _).drew).v);clear d K;refine tkQ 14 ?_;refine tkQ 15 ?_;refine tkQ 16 ?_;refine tkQ 17 ?_;refine tkQ 18 ?_;refine tkQ 19 ?_;refine Bx 20 fun K d=>?_
     go_simp
     refine(B.out _).mono ?_;rintro e k ⟨rfl,b⟩;have hSn:=(a.2.2.2.2.step b).v;clear a b;try go_simp
     refine Bl d (fun a=>?_) (by first|exact hSn|exact c.out.v|exact(c.out.step (Below.refl _ _).drew).v);clear d K;refine tkQ 21 ?_;refine tkQ 22 ?_;refine tkQ 23 ?_;refine tkQ 24 ?_;refine wpAnyH_done Kr ?_ _;go_wp2_with fail;go_ret2;exact⟨by rw[i.out];rfl,a.2.2.2.2.below⟩
   ·have L:=Et r
    have i:=Hq (f.out.trans (show _=(q,false) by simp[g,h,r]));clear f g h r;refine E4 (S:=(fun u=>Er w.heap.size ⟨7,slot,Bd,new⟩ w u)) (fun a=>?_) (by first|exact hSn|exact c.out.v|exact(c.out.step (Below.refl _ _).drew).v);refine tkQ 0 ?_;refine tkQ 1 ?_;refine tkQ 2 ?_;refine tkQ 3 ?_;refine tkQ 4 ?_;refine tkQ 5 ?_;refine tkQ 6 ?_;refine tkQ 7 ?_;refine tkQ 8 ?_;refine tkQ 9 ?_;refine tkQ 10 ?_;refine tkQ 11 ?_;refine tkQ 12 ?_;refine Bx 13 fun K d=>?_
    go_simp
    refine(m.out _).mono ?_;rintro e k ⟨rfl,b⟩;have hSn:=(a.2.2.2.2.step b).v;clear a b;try go_simp
    refine Bl d (fun a=>?_) (by first|exact hSn|exact c.out.v|exact(c.out.step (Below.refl _ _).drew).v);clear d K;refine tkQ 14 ?_;refine tkQ 15 ?_;refine tkQ 16 ?_;refine Dx 17 (some 188) rfl ?_
    try simp only[Act.put,pS]
    refine Dx 18 (some 189) rfl ?_
    try simp only[Act.put,pS]
    refine Dx 19 (some 190) rfl ?_
    try simp only[Act.put,pS]
    refine Dx 20 (some 191) rfl ?_
    try simp only[Act.put,pS]
    refine Dx 21 (some 192) rfl ?_
    try simp only[Act.put,pS]
    refine tkQ 22 ?_;refine tkQ 23 ?_;refine tkQ 24 ?_;refine wpAnyH_done Kr ?_ _;go_wp2_with fail;go_ret2;exact⟨by rw[i.out];rfl,a.2.2.2.2.below⟩
  ·have C:(slot==0)=false:=by simpa using h
   have i:=Hq (f.out.trans (show _=(q,false) by simp[g,h]));clear f g h;refine E4 (S:=(fun u=>Er w.heap.size ⟨7,slot,Bd,new⟩ w u)) (fun a=>?_) (by first|exact hSn|exact c.out.v|exact(c.out.step (Below.refl _ _).drew).v);refine tkQ 0 ?_;refine tkQ 1 ?_;refine tkQ 2 ?_;refine tkQ 3 ?_;refine tkQ 4 ?_;refine tkQ 5 ?_;refine tkQ 6 ?_;refine tkQ 7 ?_;refine tkQ 8 ?_;refine Dx 9 (some 180) rfl ?_
   try simp only[Act.put,pS]
   refine Dx 10 (some 181) rfl ?_
   try simp only[Act.put,pS]
   refine Dx 11 (some 182) rfl ?_
   try simp only[Act.put,pS]
   refine Dx 12 (some 183) rfl ?_
   try simp only[Act.put,pS]
   refine Dx 13 (some 184) rfl ?_
   try simp only[Act.put,pS]
   refine Dx 14 (some 185) rfl ?_
   try simp only[Act.put,pS]
   refine tkQ 15 ?_;refine tkQ 16 ?_;refine Dx 17 (some 188) rfl ?_
   try simp only[Act.put,pS]
   refine Dx 18 (some 189) rfl ?_
   try simp only[Act.put,pS]
   refine Dx 19 (some 190) rfl ?_
   try simp only[Act.put,pS]
   refine Dx 20 (some 191) rfl ?_
   try simp only[Act.put,pS]
   refine Dx 21 (some 192) rfl ?_
   try simp only[Act.put,pS]
   refine tkQ 22 ?_;refine tkQ 23 ?_;refine tkQ 24 ?_;refine wpAnyH_done Kr ?_ _;go_wp2_with fail;go_ret2;exact⟨by rw[i.out];rfl,a.2.2.2.2.below⟩
theorem U7 (p:ByteArray)(o:Hf)(a:p.size≤140737488355328)(b:o.new.size≤140737488355328)(w:World):
 Cr 235 #[p,Ep o] w (.tuple #[.string (Cz p o).1,.bool (Cz p o).2]):=by
 by_cases h:1≤o.kind∧o.kind≤7
 ·have c:o.kind=1∨o.kind=2∨o.kind=3∨o.kind=4∨o.kind=5∨o.kind=6∨o.kind=7:=by omega
  rcases c with h|h|h|h|h|h|h
  ·exact qZ p o h a b w
  ·exact rC p o h a b w
  ·exact rD p o h a b w
  ·exact rE p o h a b w
  ·exact rF p o h a b w
  ·exact rG p o h a b w
  ·exact rH p o h a b w
 ·exact cZ p o h a b w
def ab:ByteArray:=⟨#[97,98]⟩
def o1:Hf:=⟨1,0,⟨#[]⟩,ab⟩
def o6:Hf:=⟨6,0,⟨#[48]⟩,⟨#[55]⟩⟩
theorem Zm (p:ByteArray)(o:Hf)(h:p.size≤140737488355328)(i:o.new.size≤140737488355328)(w:World):
 Cr 234 #[p,Ep o] w (.bool (Fe p o)):=by
 have d:=Hq (fun W=>U7 p o h i W);have j:=Hq (fun W=>Ln p h W);have c:=Hq (cW p o);generalize Fe p o=R at c ⊢;generalize Bj p=b at j c;generalize Cz p o=x at d c;obtain⟨m,k⟩:=x;obtain⟨kind,slot,Bd,new⟩:=o;dsimp only[Ep]at d c ⊢;clear i
 cases k with
 |true=>
  have f:=Hq (c.out.symm.trans (Bool.true_and _));go_enter Tryz.func234,Tryz.ntmps234
  go_wp2_with(first|(go_at_call 235;refine(d.out _).mono ?_;rintro e l ⟨rfl,a⟩)|(go_at_call 239;refine(j.out _).mono ?_;rintro e n ⟨rfl,g⟩))
  go_ret;exact⟨by rw[f.out];rfl,Ae (Ae (Ad _ _) a) g⟩
 |false=>
  have f:=Hq (c.out.symm.trans (Bool.false_and _));go_enter Tryz.func234,Tryz.ntmps234
  go_wp2_with((go_at_call 235;refine(d.out _).mono ?_;rintro e l ⟨rfl,a⟩))
  go_ret;exact⟨by rw[f.out];rfl,Ae (Ad _ _) a⟩
theorem Wp (p:ByteArray)(o:Hf)(l:p.size≤140737488355328)(g:o.new.size≤140737488355328)(w:World):
 Cr 186 #[p,Ep o] w (Gm (eP p o)):=by
 have i:=Hq (fun W=>U7 p o l g W);have f:=Hq (fun W=>Zm p o l g W);have m:=Hq (C6 w o 83);have c:=Hq (fun h=>(nW (p:=p) (o:=o) h).trans (by rw[← qX h]));have d:=Hq (fun h=>sU (p:=p) (o:=o) h);generalize eP p o=R at c d ⊢;generalize Fe p o=b at f c d;generalize Cz p o=x at i c;obtain⟨q,r⟩:=x;obtain⟨kind,slot,Bd,new⟩:=o;dsimp only[Ep]at i f m ⊢;clear g
 cases b with
 |true=>
  have j:=Hq (c.out rfl);clear c d;go_enter Tryz.func186,Tryz.ntmps186
  go_wp2_with(first|(go_at_call 234;refine(f.out _).mono ?_;rintro e n ⟨rfl,a⟩;obtain⟨c0,c1,c2,c3,-⟩:=(m.out.step a).v;dsimp only at c0 c1 c2 c3)|(go_at_call 235;refine(i.out _).mono ?_;rintro e s ⟨rfl,k⟩))
  go_ret2;exact⟨by rw[j.out];rfl,Ae (Ae (Ad _ _) a) k⟩
 |false=>
  have j:=Hq (d.out rfl);clear c d;go_enter Tryz.func186,Tryz.ntmps186
  go_wp2_with((go_at_call 234;refine(f.out _).mono ?_;rintro e n ⟨rfl,a⟩))
  go_ret2;exact⟨by rw[j.out];rfl,Ae (Ad _ _) a⟩
end Go.Proofs.YtmldoihahndcgaaGreatDoor
