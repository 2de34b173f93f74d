import Derived.Test.YtmfkhdhnbkambaaGreatDoorHp00
import Derived.Test.YtmfkhdhnbkambaaGreatDoorHp01
import Derived.Deep.QuietTactic
import Derived.BigQuiet
import Derived.Deep.DeepCutAuto
import Derived.Deep.LoopGhost
import Derived.Deep.RegionHeld3
import Derived.Deep.AppendLies
import Derived.Laws.ResultCell
import Derived.Laws.Tables
import Derived.BigRegion
set_option maxRecDepth 100000
set_option maxHeartbeats 16000000
set_option linter.unusedSimpArgs false
namespace Pg
open Oct
structure Leaf where
 lsn:Nat
 kind:Nat
 link:Nat
 recs:List ByteArray
def Small (x:Leaf):Prop:=x.lsn<281474976710656∧x.kind≤4∧x.link<16777216
def zero:Leaf:=⟨0,0,0,[]⟩
def sumSizes:List ByteArray→Nat
 |[]=>0
 |r::rs=>r.size+sumSizes rs
theorem sumSizes_append (a b:List ByteArray):sumSizes (a++b)=sumSizes a+sumSizes b:=by
 induction a with
 |nil=>simp[sumSizes]
 |cons r a ih=>simp[sumSizes,ih];omega
theorem sumSizes_take_le (rs:List ByteArray)(k:Nat):sumSizes (rs.take k)≤sumSizes rs:=by
 have h:=sumSizes_append (rs.take k) (rs.drop k)
 rw[List.take_append_drop]at h
 omega
theorem sumSizes_snoc (rs:List ByteArray)(k:Nat)(h:k<rs.length):sumSizes (rs.take (k+1))=sumSizes (rs.take k)+rs[k].size:=by
 rw[List.take_succ_eq_append_getElem h,sumSizes_append];simp[sumSizes]
def sizeN (rs:List ByteArray):Nat:=19+4*rs.length+sumSizes rs
def trimN (rs:List ByteArray):Nat→Nat
 |0=>0
 |m+1=>if(rs[m]?.getD ⟨#[]⟩).size=0 then trimN rs m else m+1
theorem trimN_le (rs:List ByteArray)(m:Nat):trimN rs m≤m:=by
 induction m with
 |zero=>exact Nat.le_refl _
 |succ m ih=>unfold trimN;split<;>omega
def trim (rs:List ByteArray):List ByteArray:=rs.take (trimN rs rs.length)
def slotL (at_:Nat)(r:ByteArray):List UInt8:=if r.size=0 then putL 0 4 else putL (at_-r.size) 2++putL r.size 2
def slotsL (at_:Nat):List ByteArray→List UInt8
 |[]=>[]
 |r::rs=>slotL at_ r++slotsL (at_-r.size) rs
theorem slotsL_append (a b:List ByteArray):∀ at_:Nat,slotsL at_ (a++b)=slotsL at_ a++slotsL (at_-sumSizes a) b:=by
 induction a with
 |nil=>intro at_;simp[slotsL,sumSizes]
 |cons r a ih=>intro at_;simp only[List.cons_append,slotsL,ih,sumSizes,List.append_assoc,Nat.sub_sub]
theorem slotsL_snoc (rs:List ByteArray)(k:Nat)(h:k<rs.length):slotsL 512 (rs.take (k+1))=slotsL 512 (rs.take k)++slotL (512-sumSizes (rs.take k)) rs[k]:=by
 rw[List.take_succ_eq_append_getElem h,slotsL_append];simp[slotsL]
theorem slotL_length (at_:Nat)(r:ByteArray):(slotL at_ r).length=4:=by
 unfold slotL;split<;>simp[putL_length]
theorem slotsL_length (rs:List ByteArray):∀ at_,(slotsL at_ rs).length=4*rs.length:=by
 induction rs with
 |nil=>intro _;rfl
 |cons r rs ih=>intro at_;simp[slotsL,slotL_length,ih];omega
def bodyL:List ByteArray→List UInt8
 |[]=>[]
 |r::rs=>bodyL rs++r.data.toList
theorem bodyL_length (rs:List ByteArray):(bodyL rs).length=sumSizes rs:=by
 induction rs with
 |nil=>rfl
 |cons r rs ih=>simp[bodyL,sumSizes,ih];omega
theorem bodyL_drop (rs:List ByteArray)(k:Nat)(h:k<rs.length):bodyL (rs.drop k)=bodyL (rs.drop (k+1))++rs[k].data.toList:=by
 rw[List.drop_eq_getElem_cons h];rfl
theorem bodyL_append (a b:List ByteArray):bodyL (a++b)=bodyL b++bodyL a:=by
 induction a with
 |nil=>simp[bodyL]
 |cons r a ih=>simp[bodyL,ih]
theorem bodyL_snoc (rs:List ByteArray)(k:Nat)(h:k<rs.length):bodyL (rs.take (k+1))=rs[k].data.toList++bodyL (rs.take k):=by
 rw[List.take_succ_eq_append_getElem h,bodyL_append];simp[bodyL]
def headL (x:Leaf)(n at_:Nat):List UInt8:=putL 0 4++putL x.lsn 6++putL x.kind 1++putL 0 1++putL x.link 3++putL n 2++putL at_ 2
theorem headL_length (x:Leaf)(n at_:Nat):(headL x n at_).length=19:=by simp[headL,putL_length]
def layR (x:Leaf)(rs:List ByteArray):List UInt8:=
 if 512<sizeN rs then[]else headL x rs.length (512-sumSizes rs)++slotsL 512 rs++List.replicate (512-sizeN rs) 0++bodyL rs
def layL (x:Leaf):List UInt8:=layR x (trim x.recs)
theorem layR_length (x:Leaf)(rs:List ByteArray)(h:¬ 512<sizeN rs):(layR x rs).length=512:=by
 rw[layR,if_neg h]
 simp[headL_length,slotsL_length,bodyL_length]
 unfold sizeN at h ⊢;omega
def recsOf (p:List UInt8):Nat→Option (List ByteArray)
 |0=>some []
 |k+1=>match recsOf p k with
  |none=>none
  |some rs=>
   if 400<getN p (21+4*k) 2∨512<getN p (19+4*k) 2+getN p (21+4*k) 2 then none
   else some (rs++[⟨((p.drop (getN p (19+4*k) 2)).take (getN p (21+4*k) 2)).toArray⟩])
theorem recsOf_length (p:List UInt8):∀ (k:Nat) (rs:List ByteArray),recsOf p k=some rs→rs.length=k:=by
 intro k
 induction k with
 |zero=>intro rs h;simp[recsOf]at h;rw[h];rfl
 |succ k ih=>
  intro rs h
  unfold recsOf at h
  split at h
  ·cases h
  ·rename_i r0 h0
   split at h
   ·cases h
   ·injection h with h
    rw[← h,List.length_append,ih _ h0];rfl
theorem recsOf_none (p:List UInt8){k:Nat}(h:recsOf p k=none):∀ j,recsOf p (k+j)=none:=by
 intro j
 induction j with
 |zero=>exact h
 |succ j ih=>
  show recsOf p ((k+j)+1)=none
  simp only[recsOf,ih]
def rd (p:List UInt8):Option Leaf:=
 if p.length≠512∨4<getN p 10 1∨123<getN p 15 2 then none
 else(recsOf p (getN p 15 2)).map fun rs=>⟨getN p 4 6,getN p 10 1,getN p 12 3,rs⟩
def right (p:List UInt8):Option Leaf:=(rd p).filter fun x=>decide (layL x=putL 0 4++p.drop 4)
def leafOf (p:List UInt8):Leaf:=(right p).getD zero
theorem getN_pow (s:List UInt8)(a k:Nat):Oct.getN s a k<256^k:=by
 have h1:=Oct.getL_lt ((s.drop a).take k)
 have h2:256^((s.drop a).take k).length≤256^k:=Nat.pow_le_pow_right (by omega) (by rw[List.length_take];omega)
 unfold Oct.getN;omega
theorem recsOf_sizes (p:List UInt8):∀ (k:Nat) (rs:List ByteArray),recsOf p k=some rs→∀ r∈rs,r.size≤400:=by
 intro k
 induction k with
 |zero=>intro rs h;simp[recsOf]at h;subst h;intro r hr;cases hr
 |succ k ih=>
  intro rs h
  unfold recsOf at h
  split at h
  ·cases h
  ·rename_i r0 h0
   split at h
   ·cases h
   ·rename_i hc
    injection h with h
    intro r hr
    rw[← h,List.mem_append]at hr
    rcases hr with hr|hr
    ·exact ih r0 h0 r hr
    ·rw[List.mem_singleton.1 hr]
     simp[ByteArray.size]
     omega
theorem sumSizes_le (rs:List ByteArray)(m:Nat)(h:∀ r∈rs,r.size≤m):sumSizes rs≤m*rs.length:=by
 induction rs with
 |nil=>simp[sumSizes]
 |cons r rs ih=>
  have h1:=h r (by simp)
  have h2:=ih (fun r hr=>h r (by simp[hr]))
  simp only[sumSizes,List.length_cons,Nat.mul_succ]
  omega
structure Fine (x:Leaf):Prop where
 small:Small x
 len:x.recs.length≤123
 each:∀ r∈x.recs,r.size≤400
theorem Fine.sum {x:Leaf}(h:Fine x):sumSizes x.recs≤49200:=by
 have:=sumSizes_le x.recs 400 h.each
 have:=h.len
 omega
theorem Fine.sizeN {x:Leaf}(h:Fine x):Pg.sizeN x.recs≤60000:=by
 have:=h.sum
 have:=h.len
 unfold Pg.sizeN;omega
theorem zero_fine:Fine zero:=⟨⟨by decide,by decide,by decide⟩,by decide,by intro r hr;cases hr⟩
theorem rd_fine {p:List UInt8}{x:Leaf}(h:rd p=some x):Fine x∧p.length=512:=by
 unfold rd at h
 split at h
 ·cases h
 ·rename_i hc
  cases hr:recsOf p (getN p 15 2)with
  |none=>rw[hr]at h;cases h
  |some rs=>
   rw[hr]at h
   injection h with h
   subst h
   have h1:=getN_pow p 4 6
   have h2:=getN_pow p 12 3
   refine⟨⟨⟨by simpa using h1,(by show getN p 10 1≤4;omega),by simpa using h2⟩,(by show rs.length≤123;rw[recsOf_length p _ rs hr];omega),recsOf_sizes p _ rs hr⟩,by omega⟩
theorem layL_cases (x:Leaf):layL x=[]∨((layL x).length=512∧∀ p:List UInt8,(layL x=putL 0 4++p.drop 4↔(layL x).drop 4=p.drop 4)):=by
 by_cases h:512<Pg.sizeN (trim x.recs)
 ·left;unfold layL layR;rw[if_pos h]
 ·right
  refine⟨layR_length x _ h,fun p=>?_⟩
  have h1:layL x=putL 0 4++(layL x).drop 4:=by
   unfold layL layR
   rw[if_neg h]
   unfold headL
   simp only[List.append_assoc]
   rw[List.drop_append_of_le_length (by rw[putL_length];exact Nat.le_refl _),List.drop_of_length_le (by rw[putL_length];exact Nat.le_refl _),List.nil_append]
  constructor
  ·intro h2;rw[h2,List.drop_append_of_le_length (by rw[putL_length];exact Nat.le_refl _),List.drop_of_length_le (by rw[putL_length];exact Nat.le_refl _),List.nil_append]
  ·intro h2;rw[h1,h2]
theorem right_some {p:List UInt8}{x:Leaf}:right p=some x↔rd p=some x∧layL x=putL 0 4++p.drop 4:=by
 unfold right
 rw[Option.filter_eq_some_iff,decide_eq_true_iff]
theorem right_of {p:List UInt8}{x:Leaf}(h:rd p=some x):right p=if decide (layL x=putL 0 4++p.drop 4)then some x else none:=by
 unfold right
 rw[h];rfl
theorem right_none_of {p:List UInt8}(h:rd p=none):right p=none:=by unfold right;rw[h];rfl
theorem right_fine {p:List UInt8}{x:Leaf}(h:right p=some x):Fine x∧p.length=512:=rd_fine (right_some.1 h).1
theorem leafOf_fine (p:List UInt8):Fine (leafOf p):=by
 unfold leafOf
 cases h:right p with
 |none=>exact zero_fine
 |some x=>exact(right_fine h).1
def slotAt (rs:List ByteArray)(i:Int):ByteArray:=if i<0 then⟨#[]⟩else(rs[i.toNat]?).getD ⟨#[]⟩
theorem slotAt_neg {rs:List ByteArray}{i:Int}(h:i<0):slotAt rs i=⟨#[]⟩:=if_pos h
theorem slotAt_past {rs:List ByteArray}{i:Int}(h:(rs.length:Int)≤i):slotAt rs i=⟨#[]⟩:=by
 unfold slotAt
 rw[if_neg (by omega),List.getElem?_eq_none (by omega)];rfl
theorem slotAt_in {rs:List ByteArray}{k:Nat}(h:k<rs.length):slotAt rs (k:Int)=rs[k]:=by
 unfold slotAt
 rw[if_neg (by omega),show((k:Int).toNat)=k from rfl,List.getElem?_eq_getElem h];rfl
theorem getN_app (a b:List UInt8)(u k:Nat)(h:u<256^k):getN (a++(putL u k++b)) a.length k=u:=by
 unfold getN
 rw[List.drop_left,List.take_left' (putL_length u k),getL_putL,Nat.mod_eq_of_lt h]
theorem getN_app' (l a b:List UInt8)(n u k:Nat)(hl:l=a++(putL u k++b))(hn:a.length=n)(h:u<256^k):getN l n k=u:=by
 rw[hl,← hn];exact getN_app a b u k h
def Tight (rs:List ByteArray):Prop:=∀ r,rs.getLast? =some r→r.size≠0
theorem trim_tight (rs:List ByteArray):trim rs=rs↔Tight rs:=by
 have h0:trim rs=rs↔trimN rs rs.length=rs.length:=by
  unfold trim
  constructor
  ·intro h
   have h1:=congrArg List.length h
   rw[List.length_take]at h1
   have:=trimN_le rs rs.length
   omega
  ·intro h;rw[h,List.take_length]
 rw[h0]
 unfold Tight
 rw[List.getLast?_eq_getElem?]
 rcases hm:rs.length with _|m
 ·simp[trimN,hm]
 ·have hlt:m<rs.length:=by omega
  have hg:rs[m]? =some rs[m]:=List.getElem?_eq_getElem hlt
  simp only[Nat.add_sub_cancel,hg,Option.some.injEq,forall_eq',trimN,Option.getD_some]
  constructor
  ·intro h hz
   rw[if_pos hz]at h
   have:=trimN_le rs m
   omega
  ·intro h;rw[if_neg h]
theorem trim_trim (rs:List ByteArray):Tight (trim rs):=by
 unfold trim
 have key:∀ m,m≤rs.length→Tight (rs.take (trimN rs m)):=by
  intro m
  induction m with
  |zero=>intro _ r hr;simp[trimN]at hr
  |succ m ih=>
   intro hm
   unfold trimN
   split
   ·exact ih (by omega)
   ·rename_i h
    intro r hr
    rw[List.getLast?_eq_getElem?,List.length_take,Nat.min_eq_left hm,Nat.add_sub_cancel,List.getElem?_take_of_lt (by omega)]at hr
    rw[hr]at h
    exact h
 exact key _ (Nat.le_refl _)
theorem layL_eq {x:Leaf}(h:sizeN (trim x.recs)≤512):layL x=headL x (trim x.recs).length (512-sumSizes (trim x.recs))++slotsL 512 (trim x.recs)++List.replicate (512-sizeN (trim x.recs)) 0++bodyL (trim x.recs):=by
 unfold layL layR
 rw[if_neg (by omega)]
def headT (x:Leaf)(n a:Nat):List UInt8:=putL x.lsn 6++(putL x.kind 1++(putL 0 1++(putL x.link 3++(putL n 2++putL a 2))))
theorem headL_eq (x:Leaf)(n a:Nat):headL x n a=putL 0 4++headT x n a:=by unfold headL headT;simp only[List.append_assoc]
theorem headT_length (x:Leaf)(n a:Nat):(headT x n a).length=15:=by simp[headT,putL_length]
def tailR (x:Leaf)(rs:List ByteArray):List UInt8:=headT x rs.length (512-sumSizes rs)++(slotsL 512 rs++(List.replicate (512-sizeN rs) 0++bodyL rs))
theorem tailR_length (x:Leaf)(rs:List ByteArray)(h:sizeN rs≤512):(tailR x rs).length=508:=by
 unfold tailR
 simp only[List.length_append,headT_length,slotsL_length,List.length_replicate,bodyL_length]
 have hz:sizeN rs=19+4*rs.length+sumSizes rs:=rfl
 omega
theorem layL_tail {x:Leaf}(h:sizeN (trim x.recs)≤512):layL x=putL 0 4++tailR x (trim x.recs):=by
 rw[layL_eq h,headL_eq];unfold tailR;simp only[List.append_assoc]
structure Heads (x:Leaf) (l:List UInt8) (n:Nat):Prop where
 lsn:getN l 4 6=x.lsn
 kind:getN l 10 1=x.kind
 link:getN l 12 3=x.link
 count:getN l 15 2=n
theorem headT_reads (h:List UInt8)(hh:h.length=4)(x:Leaf)(hx:Small x)(n a:Nat)(hn:n<65536)(b:List UInt8):Heads x (h++(headT x n a++b)) n:=by
 obtain⟨h1,h2,h3⟩:=hx
 constructor
 ·exact getN_app' _ h (putL x.kind 1++(putL 0 1++(putL x.link 3++(putL n 2++(putL a 2++b))))) _ _ _ (by simp[headT]) (by simp[hh]) (by omega)
 ·exact getN_app' _ (h++putL x.lsn 6) (putL 0 1++(putL x.link 3++(putL n 2++(putL a 2++b)))) _ _ _ (by simp[headT]) (by simp[putL_length,hh]) (by omega)
 ·exact getN_app' _ (h++putL x.lsn 6++putL x.kind 1++putL 0 1) (putL n 2++(putL a 2++b)) _ _ _ (by simp[headT]) (by simp[putL_length,hh]) (by omega)
 ·exact getN_app' _ (h++putL x.lsn 6++putL x.kind 1++putL 0 1++putL x.link 3) (putL a 2++b) _ _ _ (by simp[headT]) (by simp[putL_length,hh]) (by omega)
theorem slotL_eq (a:Nat)(r:ByteArray):slotL a r=putL (if r.size=0 then 0 else a-r.size) 2++putL r.size 2:=by
 unfold slotL
 by_cases h:r.size=0
 ·rw[if_pos h,if_pos h,h];rfl
 ·rw[if_neg h,if_neg h]
theorem slotsL_split (rs:List ByteArray)(k:Nat)(h:k<rs.length):slotsL 512 rs=slotsL 512 (rs.take k)++(slotL (512-sumSizes (rs.take k)) rs[k]++slotsL (512-sumSizes (rs.take k)-rs[k].size) (rs.drop (k+1))):=by
 have h1:rs=rs.take k++rs[k]::rs.drop (k+1):=by rw[← List.drop_eq_getElem_cons h,List.take_append_drop]
 conv=>lhs;rw[h1]
 rw[slotsL_append];rfl
theorem bodyL_split (rs:List ByteArray)(k:Nat)(h:k<rs.length):bodyL rs=bodyL (rs.drop (k+1))++(rs[k].data.toList++bodyL (rs.take k)):=by
 have h1:rs=rs.take k++rs[k]::rs.drop (k+1):=by rw[← List.drop_eq_getElem_cons h,List.take_append_drop]
 conv=>lhs;rw[h1]
 rw[bodyL_append];simp[bodyL]
theorem sumSizes_split (rs:List ByteArray)(k:Nat)(h:k<rs.length):sumSizes rs=sumSizes (rs.take k)+rs[k].size+sumSizes (rs.drop (k+1)):=by
 have h1:rs=rs.take k++rs[k]::rs.drop (k+1):=by rw[← List.drop_eq_getElem_cons h,List.take_append_drop]
 conv=>lhs;rw[h1]
 rw[sumSizes_append];simp[sumSizes];omega
theorem recsOf_lay (h:List UInt8)(hh:h.length=4)(x:Leaf)(rs:List ByteArray)(hs:sizeN rs≤512)(he:∀ r∈rs,r.size≤400):
 ∀ k,k≤rs.length→recsOf (h++tailR x rs) k=some (rs.take k):=by
 intro k
 induction k with
 |zero=>intro _;simp[recsOf]
 |succ k ih=>
  intro hk
  have hk':k<rs.length:=by omega
  unfold recsOf
  rw[ih (by omega)]
  simp only
  have hsum:=sumSizes_split rs k hk'
  have hz:sizeN rs=19+4*rs.length+sumSizes rs:=rfl
  have hr4:rs[k].size≤400:=he _ (List.getElem_mem hk')
  have hsp:=slotsL_split rs k hk'
  have hbs:=bodyL_split rs k hk'
  have hse:=slotL_eq (512-sumSizes (rs.take k)) rs[k]
  have hl1:(slotsL 512 (rs.take k)).length=4*k:=by rw[slotsL_length,List.length_take];omega
  have g1:getN (h++tailR x rs) (19+4*k) 2=if rs[k].size=0 then 0 else 512-sumSizes (rs.take k)-rs[k].size:=by
   refine getN_app' _ (h++headT x rs.length (512-sumSizes rs)++slotsL 512 (rs.take k)) (putL rs[k].size 2++(slotsL (512-sumSizes (rs.take k)-rs[k].size) (rs.drop (k+1))++(List.replicate (512-sizeN rs) 0++bodyL rs))) _ _ _ ?_ ?_ ?_
   ·unfold tailR;rw[hsp,hse];simp only[List.append_assoc]
   ·rw[List.length_append,List.length_append,headT_length,hl1,hh]
   ·split<;>omega
  have g2:getN (h++tailR x rs) (21+4*k) 2=rs[k].size:=by
   refine getN_app' _ (h++headT x rs.length (512-sumSizes rs)++slotsL 512 (rs.take k)++putL (if rs[k].size=0 then 0 else 512-sumSizes (rs.take k)-rs[k].size) 2) (slotsL (512-sumSizes (rs.take k)-rs[k].size) (rs.drop (k+1))++(List.replicate (512-sizeN rs) 0++bodyL rs)) _ _ _ ?_ ?_ ?_
   ·unfold tailR;rw[hsp,hse];simp only[List.append_assoc]
   ·rw[List.length_append,List.length_append,List.length_append,headT_length,hl1,putL_length,hh];omega
   ·omega
  rw[g1,g2]
  rw[if_neg (by split<;>omega)]
  rw[List.take_succ_eq_append_getElem hk']
  congr 2
  by_cases h0:rs[k].size=0
  ·rw[h0]
   have:rs[k]=⟨#[]⟩:=by apply ByteArray.ext;exact Array.eq_empty_of_size_eq_zero h0
   rw[this];rfl
  ·rw[if_neg h0]
   have hpre:(h++(headT x rs.length (512-sumSizes rs)++(slotsL 512 rs++(List.replicate (512-sizeN rs) 0++bodyL (rs.drop (k+1)))))).length=512-sumSizes (rs.take k)-rs[k].size:=by
    simp only[List.length_append,headT_length,slotsL_length,List.length_replicate,bodyL_length,hh];omega
   have hsplit:h++tailR x rs=(h++(headT x rs.length (512-sumSizes rs)++(slotsL 512 rs++(List.replicate (512-sizeN rs) 0++bodyL (rs.drop (k+1))))))++(rs[k].data.toList++bodyL (rs.take k)):=by
    unfold tailR
    conv=>lhs;rw[hbs]
    simp only[List.append_assoc]
   rw[hsplit,← hpre,List.drop_left,List.take_left' (by simp)]
theorem rd_tail (h:List UInt8)(hh:h.length=4){x:Leaf}(hx:Small x)(rs:List ByteArray)(hs:sizeN rs≤512)(he:∀ r∈rs,r.size≤400):rd (h++tailR x rs)=some {x with recs:=rs}:=by
 have hz:sizeN rs=19+4*rs.length+sumSizes rs:=rfl
 have hd:=headT_reads h hh x hx rs.length (512-sumSizes rs) (by omega) (slotsL 512 rs++(List.replicate (512-sizeN rs) 0++bodyL rs))
 have hr:=recsOf_lay h hh x rs hs he rs.length (Nat.le_refl _)
 rw[List.take_length]at hr
 have hl:(h++tailR x rs).length=512:=by rw[List.length_append,tailR_length x rs hs,hh]
 change Heads x (h++tailR x rs) rs.length at hd
 unfold rd
 rw[hd.kind,hd.count,hd.lsn,hd.link,hl,if_neg (by have:=hx.2.1;omega),hr]
 rfl
theorem trim_of_tight {rs:List ByteArray}(h:Tight rs):trim rs=rs:=(trim_tight rs).2 h
theorem right_tail (h:List UInt8)(hh:h.length=4){x:Leaf}(hx:Small x)(rs:List ByteArray)(hs:sizeN rs≤512)(he:∀ r∈rs,r.size≤400)(ht:Tight rs):right (h++tailR x rs)=some {x with recs:=rs}:=by
 rw[right_some]
 refine⟨rd_tail h hh hx rs hs he,?_⟩
 have h1:trim ({x with recs:=rs}:Leaf).recs=rs:=trim_of_tight ht
 rw[layL_tail (x:={x with recs:=rs}) (by rw[h1];exact hs),h1,← hh,List.drop_left]
 rfl
theorem right_layL {x:Leaf}(hx:Small x)(hs:sizeN (trim x.recs)≤512)(he:∀ r∈x.recs,r.size≤400):right (layL x)=some {x with recs:=trim x.recs}:=by
 rw[layL_tail hs]
 exact right_tail _ (putL_length 0 4) hx _ hs (fun r hr=>he r (List.mem_of_mem_take hr)) (trim_trim _)
theorem right_tight {p:List UInt8}{x:Leaf}(h:right p=some x):Tight x.recs∧sizeN x.recs≤512:=by
 obtain⟨h1,h2⟩:=right_some.1 h
 obtain⟨hf,h512⟩:=rd_fine h1
 have hlen:(layL x).length=512:=by
  rw[h2,List.length_append,putL_length,List.length_drop,h512]
 have hs:sizeN (trim x.recs)≤512:=by
  rcases Nat.lt_or_ge 512 (sizeN (trim x.recs))with h3|h3
  ·have:layL x=[]:=by unfold layL layR;rw[if_pos h3]
   rw[this]at hlen;cases hlen
  ·exact h3
 have hd:=headT_reads (putL 0 4) (putL_length 0 4) x hf.small (trim x.recs).length (512-sumSizes (trim x.recs)) (by have:sizeN (trim x.recs)=19+4*(trim x.recs).length+sumSizes (trim x.recs):=rfl;omega) (slotsL 512 (trim x.recs)++(List.replicate (512-sizeN (trim x.recs)) 0++bodyL (trim x.recs)))
 change Heads x (putL 0 4++tailR x (trim x.recs)) _ at hd
 rw[← layL_tail hs]at hd
 have hc:=hd.count
 have hcp:getN (layL x) 15 2=getN p 15 2:=by
  rw[h2]
  unfold getN
  rw[show 15=4+11 from rfl,← List.drop_drop,← List.drop_drop,List.drop_left' (putL_length 0 4)]
 have hn:x.recs.length=getN p 15 2:=by
  unfold rd at h1
  split at h1
  ·cases h1
  ·cases hr:recsOf p (getN p 15 2)with
   |none=>rw[hr]at h1;cases h1
   |some rs=>
    rw[hr]at h1
    injection h1 with h1
    rw[← h1]
    exact recsOf_length p _ rs hr
 have ht:trim x.recs=x.recs:=by
  have h5:(trim x.recs).length=x.recs.length:=by rw[hn,← hcp,hc]
  unfold trim at h5 ⊢
  rw[List.length_take]at h5
  exact List.take_of_length_le (by omega)
 exact⟨(trim_tight _).1 ht,by rw[ht]at hs;exact hs⟩
theorem right_bytes {p:List UInt8}{x:Leaf}(h:right p=some x):p=p.take 4++tailR x x.recs:=by
 obtain⟨ht,hs⟩:=right_tight h
 have h1:trim x.recs=x.recs:=trim_of_tight ht
 have h2:=(right_some.1 h).2
 rw[layL_tail (by rw[h1];exact hs),h1]at h2
 have h3:=List.append_cancel_left h2
 rw[h3,List.take_append_drop]
theorem right_sum {p q:List UInt8}{x:Leaf}(h:right p=some x)(hl:q.length=512)(hd:q.drop 4=p.drop 4):right q=some x:=by
 obtain⟨ht,hs⟩:=right_tight h
 have h5:=(right_fine h).2
 have hb:=right_bytes h
 have h1:p.drop 4=tailR x x.recs:=by
  conv=>lhs;rw[hb]
  exact List.drop_left' (by rw[List.length_take];omega)
 rw[← List.take_append_drop 4 q,hd,h1]
 exact right_tail _ (by rw[List.length_take];omega) (right_fine h).1.small _ hs (right_fine h).1.each ht
end Pg
namespace Go.Proofs.YtmfkhdhnbkambaaGreatDoor
open Go.RowKit
def Cells (w:World)(A:Option Addr)(c:Nat)(rs:List ByteArray):Prop:=
 0<rs.length→∃ b off,A=some ⟨b,off,none⟩∧rs.length≤c∧b<w.heap.size∧∀ j (h:j<rs.length),w.cell? ⟨b,off+j,none⟩=some (.string rs[j])
theorem Cells.below {w w':World}{A:Option Addr}{c:Nat}{rs:List ByteArray}(h:Cells w A c rs)(hb:Below w.heap.size w w'):Cells w' A c rs:=fun h0=>by
 obtain⟨b,off,hA,hc,hlt,hcell⟩:=h h0
 refine⟨b,off,hA,hc,Nat.lt_of_lt_of_le hlt hb.size,fun j hj=>?_⟩
 rw[hb.cell (p:=⟨b,off+j,none⟩) hlt];exact hcell j hj
theorem Cells.at_ {w:World}{A:Option Addr}{c:Nat}{rs:List ByteArray}(h:Cells w A c rs){k:Nat}(hk:k<rs.length):∃ b off,A=some ⟨b,off,none⟩∧rs.length≤c∧b<w.heap.size∧w.cell? ⟨b,off+k,none⟩=some (.string rs[k]):=by
 obtain⟨b,off,hA,hc,hlt,hcell⟩:=h (by omega)
 exact⟨b,off,hA,hc,hlt,hcell k hk⟩
theorem ret_int {k:IntKind}{a b:Int}(h:a=b):Ending.returned (.int k a)= .returned (.int k b):=by rw[h]
theorem ret_str {a b:ByteArray}(h:a=b):Ending.returned (.string a)= .returned (.string b):=by rw[h]
theorem andThen {a b c:World}(h:Below a.heap.size a b)(k:Below b.heap.size b c):Below a.heap.size a c:=h.trans (k.mono h.size)
theorem size_any (A:Option Addr)(c:Nat)(rs:List ByteArray)(hb:Pg.sizeN rs≤1099511627776)(w:World)(h:Cells w A c rs):
 Calls Tryz.prog 110 #[.slice A rs.length c] w fun e w'=>e= .returned (.int .i64 (Pg.sizeN rs))∧w=w':=by
 unfold Pg.sizeN at hb
 have HC:=Hq h
 clear h
 go_enter Tryz.func110,Tryz.ntmps110
 go_wp2_with fail
 go_loop [3,12] (fun n i=>∃ k:Nat,k≤rs.length∧i= .int .i64 k∧n= .int .i64 ((19+4*rs.length+Pg.sumSizes (rs.take k):Nat):Int)) (fun _ i=>rs.length-(intOf i).toNat)
 case atStart=>exact⟨0,Nat.zero_le _,rfl,by simp[Pg.sumSizes]⟩
 case round=>
  obtain⟨k,hk,rfl,rfl⟩:=hrel
  have hle:=Pg.sumSizes_take_le rs k
  by_cases hlt:k<rs.length
  ·obtain⟨b,off,rfl,hc,hbl,hcell⟩:=HC.out.at_ hlt
   have HS:=Hq (Pg.sumSizes_snoc rs k hlt)
   have hle2:=Pg.sumSizes_take_le rs (k+1)
   have hsz:Pg.sumSizes (rs.take k)+rs[k].size≤Pg.sumSizes rs:=by rw[← HS.out];exact hle2
   clear hle2
   generalize hr:rs[k]=r at hcell hsz
   have HR:=Hq hr
   clear hr
   go_wp2_with fail
   go_round
   case rel=>exact⟨k+1,by omega,by go_num,by rw[HS.out,HR.out];go_num⟩
   case measure=>simp[intOf];omega
  ·obtain rfl:k=rs.length:=by omega
   go_wp2_with fail
   go_ret
   exact⟨ret_int (by unfold Pg.sizeN;omega),rfl⟩
def boxOf (x:Pg.Leaf)(A:Option Addr)(m c:Nat):Obj:=.cells #[x.lsn,x.kind,x.link,.slice A m c] 151
theorem empty_iff (r:ByteArray):r.toList.isEmpty=decide (r.size=0):=by
 rw[ByteArray.toList_eq]
 have h:r.data.toList.length=r.size:=by simp
 cases hl:r.data.toList with
 |nil=>rw[hl]at h;simp at h;simp[h.symm]
 |cons a l=>
  rw[hl,List.length_cons]at h
  simp only[List.isEmpty_cons]
  exact(decide_eq_false (by omega)).symm
theorem three_new (w:World)(o1 o2 o3:Obj):(((w.alloc o1).alloc o2).alloc o3).heap[w.heap.size]? =some o1∧(((w.alloc o1).alloc o2).alloc o3).heap[w.heap.size+1]? =some o2∧(((w.alloc o1).alloc o2).alloc o3).heap[w.heap.size+1+1]? =some o3∧(((w.alloc o1).alloc o2).alloc o3).heap.size=w.heap.size+3:=by
 have e:(((w.alloc o1).alloc o2).alloc o3).heap=((w.heap.push o1).push o2).push o3:=rfl
 rw[e]
 refine⟨?_,?_,?_,by simp⟩
 ·rw[Array.getElem?_push_lt (by simp;omega),Array.getElem_push_lt (by simp),Array.getElem_push_eq]
 ·rw[Array.getElem?_push_lt (by simp),Array.getElem_push];simp
 ·rw[Array.getElem?_push];simp
theorem put_held (n size:Int)(h0:0≤size)(h8:size≤8)(X:Nat)(v0 v1 v2 v3:Value)(w0 w:World)(hX:X<w0.heap.size)
 (h:w.cell? ⟨X,0,none⟩=some v0∧w.cell? ⟨X,1,none⟩=some v1∧w.cell? ⟨X,2,none⟩=some v2∧w.cell? ⟨X,3,none⟩=some v3∧Below w0.heap.size w0 w):
 Calls Tryz.prog 153 #[n,size] w fun e w'=>e= .returned (.string (Oct.putB n size))∧
  (w'.cell? ⟨X,0,none⟩=some v0∧w'.cell? ⟨X,1,none⟩=some v1∧w'.cell? ⟨X,2,none⟩=some v2∧w'.cell? ⟨X,3,none⟩=some v3∧Below w0.heap.size w0 w'):=by
 obtain⟨c0,c1,c2,c3,hb⟩:=h
 have hs:=hb.size
 refine(put_any n size h0 h8 w).mono ?_
 rintro e w' ⟨rfl,hb1⟩
 refine⟨rfl,?_,?_,?_,?_,andThen hb hb1⟩
 ·rw[hb1.cell (p:=⟨X,0,none⟩) (by show X<_;omega)];exact c0
 ·rw[hb1.cell (p:=⟨X,1,none⟩) (by show X<_;omega)];exact c1
 ·rw[hb1.cell (p:=⟨X,2,none⟩) (by show X<_;omega)];exact c2
 ·rw[hb1.cell (p:=⟨X,3,none⟩) (by show X<_;omega)];exact c3
theorem made_any (x:Pg.Leaf)(A:Option Addr)(c:Nat)(hx:Pg.Small x)(hb:Pg.sizeN x.recs≤1099511627776)(w:World)(h:Cells w A c x.recs):
 Calls Tryz.prog 128 #[.agg #[x.lsn,x.kind,x.link,.slice A x.recs.length c]] w fun e w'=>e= .returned (.string ⟨(Pg.layL x).toArray⟩)∧Below w.heap.size w w':=by
 have HXS:=Hq hx
 clear hx
 have HC:=Hq h
 have hbn:x.recs.length≤1099511627776:=by unfold Pg.sizeN at hb;omega
 have HB:=Hq hb
 clear h hb
 go_enter Tryz.func128,Tryz.ntmps128
 go_upto_block 0 with(fail)
 go_cut [] (fun wc=>∃ m:Nat,m≤x.recs.length∧Pg.trimN x.recs x.recs.length=m∧wc=w.alloc (boxOf x A m c))
 case first=>
  go_wp2_with fail
  go_loopg [] x.recs.length (fun m wr=>m≤x.recs.length∧Pg.trimN x.recs m=Pg.trimN x.recs x.recs.length∧wr=w.alloc (boxOf x A m c))
  case atStart=>exact⟨Nat.le_refl _,rfl,rfl⟩
  case round=>
   obtain⟨hm,ht,rfl⟩:=hrel
   have HT:=Hq ht
   clear ht
   unfold boxOf
   by_cases h0:gk=0
   ·subst h0
    go_wp2_with fail
    go_meet
    case rel=>exact⟨0,Nat.zero_le _,by rw[← HT.out];rfl,rfl⟩
   ·obtain⟨b,off,rfl,hc,hbl,hcell⟩:=HC.out.at_ (k:=gk-1) (by omega)
    obtain⟨m,rfl⟩:∃ m,gk=m+1:=⟨gk-1,by omega⟩
    simp only[Nat.add_sub_cancel]at hcell
    have hie:=empty_iff x.recs[m]
    have HR:=Hq (show x.recs[m]?.getD ⟨#[]⟩=x.recs[m] by simp[show m<x.recs.length by omega])
    have hcc:(World.cell? (w.alloc (boxOf x (some ⟨b,off,none⟩) (m+1) c)) ⟨b,off+m,none⟩)=some (.string x.recs[m]):=by
     rw[World.cell?_alloc_lt _ _ _ hbl];exact hcell
    unfold boxOf at hcc
    generalize hr:x.recs[m]=r at hcell hie hcc HR
    by_cases he:r.size=0
    ·have hie2:r.toList.isEmpty=true:=by rw[hie];exact decide_eq_true he
     clear hie hr
     have HE:=Hq he
     clear he
     go_wp2_with fail
     go_roundg m
     case measure=>omega
     case rel=>exact⟨by omega,by rw[← HT.out,Pg.trimN,HR.out,if_pos HE.out],rfl⟩
    ·have hie2:r.toList.isEmpty=false:=by rw[hie];exact decide_eq_false he
     clear hie hr
     have HE:=Hq he
     clear he
     go_wp2_with fail
     go_meet
     case rel=>exact⟨m+1,hm,by rw[← HT.out,Pg.trimN,HR.out,if_neg HE.out],rfl⟩
 case rest=>
  obtain⟨m,hm,ht,rfl⟩:=hcut
  have hlen:(x.recs.take m).length=m:=by rw[List.length_take];omega
  have hsz:Pg.sizeN (x.recs.take m)≤1099511627776:=by
   have:=HB.out
   have:=Pg.sumSizes_take_le x.recs m
   unfold Pg.sizeN at*;omega
  have HC2:=Hq (show Cells w A c (x.recs.take m)from fun h0=>by
   obtain⟨b,off,hA,hc,hlt,hcell⟩:=HC.out (by omega)
   refine⟨b,off,hA,by omega,hlt,fun j hj=>?_⟩
   rw[List.getElem_take];exact hcell j (by omega))
  have HL:=Hq (show Pg.layL x=Pg.layR x (x.recs.take m) by rw[Pg.layL,Pg.trim,ht])
  generalize hrs:x.recs.take m=rs at hlen hsz HC2 HL
  subst hlen
  clear HC HB hbn hm ht hrs
  unfold boxOf
  by_cases hfit:512<Pg.sizeN rs
  ·go_wp2_with (go_at_call 110;refine(size_any A c rs hsz _ (HC2.out.below ((Below.refl _ _).alloc (Nat.le_refl _) _))).mono ?_;rintro e w' ⟨rfl,rfl⟩)
   go_ret
   exact⟨ret_str (by rw[HL.out,Pg.layR,if_pos hfit]),(Below.refl _ _).alloc (Nat.le_refl _) _⟩
  ·go_upto_block 2 with(go_at_call 110;refine(size_any A c rs hsz _ (HC2.out.below ((Below.refl _ _).alloc (Nat.le_refl _) _))).mono ?_;rintro e w' ⟨rfl,rfl⟩)
   have hs512:Pg.sumSizes rs≤512:=by unfold Pg.sizeN at hfit;omega
   have hn123:rs.length≤512:=by unfold Pg.sizeN at hfit;omega
   obtain⟨W3,hW3⟩:=ex (((w.alloc (.cells #[x.lsn,x.kind,x.link,.slice A rs.length c] 151)).alloc (.cells #[.pointer none,"s"] 189)).alloc (.cells #[.pointer none,"s"] 189))
   rw[← hW3]
   have hb3:Below w.heap.size w W3:=by rw[hW3];exact(((Below.refl _ _).alloc (Nat.le_refl _) _).alloc (by simp) _).alloc (by simp;omega) _
   obtain⟨hx3,h43,h53,hz3⟩:=three_new w (.cells #[x.lsn,x.kind,x.link,.slice A rs.length c] 151) (.cells #[.pointer none,"s"] 189) (.cells #[.pointer none,"s"] 189)
   rw[← hW3]at hx3 h43 h53 hz3
   clear hW3
   have HB3:=Hq hb3
   have HX3:=Hq hx3
   have H43:=Hq h43
   have H53:=Hq h53
   have HZ3:=Hq hz3
   have HFIT:=Hq hfit
   clear hb3 hx3 h43 h53 hz3 hfit
   go_cut [6] (fun s6 wc=>s6= .int .i64 ((512-Pg.sumSizes rs:Nat):Int)∧Bld W3.heap.size wc.heap.size (w.heap.size+1) (Pg.slotsL 512 rs) wc∧KeptB W3.heap.size (w.heap.size+1) W3 wc)
   case first=>
    go_wp2_with fail
    go_loopw [6,43] (fun a i wr=>∃ k:Nat,k≤rs.length∧i= .int .i64 k∧a= .int .i64 ((512-Pg.sumSizes (rs.take k):Nat):Int)∧Bld W3.heap.size wr.heap.size (w.heap.size+1) (Pg.slotsL 512 (rs.take k)) wr∧KeptB W3.heap.size (w.heap.size+1) W3 wr) (fun _ i _=>rs.length-(intOf i).toNat)
    case atStart=>exact⟨0,Nat.zero_le _,rfl,by simp[Pg.sumSizes],Bld.fresh _ _ _ _ (by rw[HZ3.out];omega) H43.out,KeptB.refl _ _ _⟩
    case round=>
     obtain⟨k,hk,rfl,rfl,hbld,hkept⟩:=hrel
     have HK:=Hq hkept
     have HD:=Hq hbld
     have hsl:=Pg.sumSizes_take_le rs k
     have hWr:W3.heap.size≤wr.heap.size:=hkept.size
     clear hbld hkept
     by_cases hlt:k<rs.length
     ·obtain⟨b,off,rfl,hc,hbl,hcell⟩:=HC2.out.at_ hlt
      have hcw:wr.cell? ⟨b,off+k,none⟩=some (.string rs[k]):=by
       rw[(HK.out.below (lo:=w.heap.size) (by rw[HZ3.out];omega) (by omega)).cell (p:=⟨b,off+k,none⟩) hbl,HB3.out.cell (p:=⟨b,off+k,none⟩) hbl];exact hcell
      have HS:=Hq (Pg.sumSizes_snoc rs k hlt)
      have HSL:=Hq (Pg.slotsL_snoc rs k hlt)
      have hle2:=Pg.sumSizes_take_le rs (k+1)
      have hsz2:Pg.sumSizes (rs.take k)+rs[k].size≤512:=by rw[← HS.out];omega
      have hlen:(Pg.slotsL 512 (rs.take k)).length≤4096:=by rw[Pg.slotsL_length,List.length_take];omega
      have hie:=empty_iff rs[k]
      clear hle2 hcell
      generalize hr:rs[k]=r at hcw hsz2 hie HS HSL
      clear hr
      by_cases he:r.size=0
      ·have hie2:r.toList.isEmpty=true:=by rw[hie];exact decide_eq_true he
       clear hie
       have HE:=Hq he
       clear he
       go_wp2_with (first|(go_at_call 153;refine(put_any _ _ (by omega) (by omega) _).mono ?_;rintro e w1 ⟨rfl,hb1⟩)|(go_at_call 175;refine(write_any _ _ _ _ _ _ (HD.out.below hb1) ?_ ?_).mono ?_;(rw[show(Oct.putB 0 4).size=4 from Oct.putB_size 0 4 (by omega)];omega);(have:=hb1.size;omega);rintro e w2 ⟨rfl,hbld2,hk2⟩))
       go_roundw
       case rel=>exact⟨k+1,by omega,by go_num,by rw[HS.out,HE.out];rfl,by
        rw[HSL.out,Pg.slotL,if_pos HE.out]
        rw[show(Oct.putB 0 4).data.toList=Oct.putL 0 4 from Oct.putB_list 0 4 (by omega)]at hbld2
        exact hbld2,HK.out.trans ((KeptB.of_below hWr hb1).trans hk2)⟩
       case measure=>simp[intOf];omega
      ·have hie2:r.toList.isEmpty=false:=by rw[hie];exact decide_eq_false he
       clear hie
       have HE:=Hq he
       clear he
       obtain⟨a,ha⟩:=ex (512-Pg.sumSizes (rs.take k):Nat)
       rw[← ha]
       have hra:r.size≤a:=by omega
       have ha512:a≤512:=by omega
       have HA:=Hq ha
       clear ha
       have hadd:∀ (u v:Int) (W:World),(Op.stringOp .add (Oct.putB u 2) (Oct.putB v 2)).run Tryz.prog W= .ok (.string (Oct.putB u 2++Oct.putB v 2)) W:=fun u v W=>run_string_add_sum W _ _ (by
        rw[show(Oct.putB u 2).size=2 from Oct.putB_size u 2 (by omega),show(Oct.putB v 2).size=2 from Oct.putB_size v 2 (by omega)];omega)
       go_wp2_with (first|(go_at_call 153;(with_reducible refine(put_any (r.size:Int) _ (by omega) (by omega) _).mono ?_);rintro e w2 ⟨rfl,hb2⟩)|(go_at_call 153;refine(put_any _ _ (by omega) (by omega) _).mono ?_;rintro e w1 ⟨rfl,hb1⟩)|(go_at_call 175;refine(write_any _ _ _ _ _ _ ((HD.out.below hb1).below hb2) ?_ ?_).mono ?_;(rw[ByteArray.size_append,show(Oct.putB _ 2).size=2 from Oct.putB_size _ 2 (by omega),show(Oct.putB _ 2).size=2 from Oct.putB_size _ 2 (by omega)];omega);(have:=hb1.size;have:=hb2.size;omega);rintro e w3 ⟨rfl,hbld3,hk3⟩))
       go_roundw
       case rel=>
        refine⟨k+1,by omega,by go_num,?_,?_,HK.out.trans ((KeptB.of_below hWr hb1).trans ((KeptB.of_below (by have:=hb1.size;omega) hb2).trans hk3))⟩
        ·have:=HA.out
         rw[HS.out]
         exact congrArg (Value.int IntKind.i64) (by omega)
        ·rw[HSL.out,Pg.slotL,if_neg HE.out,← HA.out]
         have e1:(Oct.putB ((a:Int)-(r.size:Int)) 2).data.toList=Oct.putL (a-r.size) 2:=by
          rw[show((a:Int)-(r.size:Int))=((a-r.size:Nat):Int) by omega]
          have:=Oct.putB_list ((a-r.size:Nat):Int) 2 (by omega)
          rwa[Oct.word_nat (a-r.size) (by omega)]at this
         have e2:(Oct.putB (r.size:Int) 2).data.toList=Oct.putL r.size 2:=by
          have:=Oct.putB_list (r.size:Int) 2 (by omega)
          rwa[Oct.word_nat r.size (by omega)]at this
         rw[ByteArray.data_append,Array.toList_append,e1,e2]at hbld3
         exact hbld3
       case measure=>simp[intOf];omega
     ·obtain rfl:k=rs.length:=by omega
      have HT:=Hq (List.take_length (l:=rs))
      go_wp2_with fail
      go_meet
      case rel=>
       have h1:=HD.out
       rw[HT.out]at h1
       exact⟨by rw[HT.out],h1,HK.out⟩
   case rest=>
    obtain⟨wm,rfl⟩:=ex wc
    obtain⟨rfl,hbld,hkept⟩:=hcut
    have HD:=Hq hbld
    have HK:=Hq hkept
    have hWc:W3.heap.size≤wm.heap.size:=hkept.size
    clear hbld hkept
    have hx:wm.heap[w.heap.size]? =some (.cells #[x.lsn,x.kind,x.link,.slice A rs.length c] 151 (0,0)):=by
     rw[HK.out.block _ (by rw[HZ3.out];omega) (by omega)];exact HX3.out
    have c0:wm.cell? ⟨w.heap.size,0,none⟩=some (.int .i64 x.lsn):=by rw[cell_of_blk hx];rfl
    have c1:wm.cell? ⟨w.heap.size,1,none⟩=some (.int .i64 x.kind):=by rw[cell_of_blk hx];rfl
    have c2:wm.cell? ⟨w.heap.size,2,none⟩=some (.int .i64 x.link):=by rw[cell_of_blk hx];rfl
    have c3:wm.cell? ⟨w.heap.size,3,none⟩=some (.slice A rs.length c):=by rw[cell_of_blk hx];rfl
    have HX:=Hq hx
    clear hx
    go_upto_block 4 with(fail)
    go_cut [] (fun wc=>Bld wm.heap.size wc.heap.size (w.heap.size+1+1) (Pg.bodyL rs) wc∧KeptB wm.heap.size (w.heap.size+1+1) wm wc)
    case first=>
     go_wp2_with fail
     go_loopw [9] (fun i wr=>∃ j:Nat,j≤rs.length∧i= .int .i64 ((j:Int)-1)∧Bld wm.heap.size wr.heap.size (w.heap.size+1+1) (Pg.bodyL (rs.drop j)) wr∧KeptB wm.heap.size (w.heap.size+1+1) wm wr) (fun i _=>(intOf i+1).toNat)
     case atStart=>
      refine⟨rs.length,Nat.le_refl _,rfl,?_,KeptB.refl _ _ _⟩
      rw[List.drop_length]
      exact Bld.fresh _ _ _ _ (by have:=HZ3.out;omega) (by rw[HK.out.block _ (by rw[HZ3.out];omega) (by omega)];exact H53.out)
     case round=>
      obtain⟨j,hj,rfl,hbld,hkept⟩:=hrel
      have HK4:=Hq hkept
      have HD4:=Hq hbld
      have hWr:wm.heap.size≤wr.heap.size:=hkept.size
      have hz:=HZ3.out
      have d3:wr.cell? ⟨w.heap.size,3,none⟩=some (.slice A rs.length c):=by
       have:wr.heap[w.heap.size]? =_:=(hkept.block _ (by omega) (by omega)).trans HX.out
       rw[cell_of_blk this];rfl
      clear hbld hkept c0 c1 c2 c3 hz
      by_cases h0:j=0
      ·subst h0
       go_wp2_with fail
       go_meet
       case rel=>exact⟨HD4.out,HK4.out⟩
      ·obtain⟨k,rfl⟩:∃ k,j=k+1:=⟨j-1,by omega⟩
       rw[show((k+1:Nat):Int)-1=(k:Int) by omega]
       obtain⟨b,off,rfl,hc,hbl,hcell⟩:=HC2.out.at_ (k:=k) (by omega)
       have hcw:wr.cell? ⟨b,off+k,none⟩=some (.string rs[k]):=by
        have hz:=HZ3.out
        rw[(HK4.out.below (lo:=w.heap.size) (by omega) (by omega)).cell (p:=⟨b,off+k,none⟩) hbl,(HK.out.below (lo:=w.heap.size) (by omega) (by omega)).cell (p:=⟨b,off+k,none⟩) hbl,HB3.out.cell (p:=⟨b,off+k,none⟩) hbl];exact hcell
       have HBD:=Hq (Pg.bodyL_drop rs k (by omega))
       have hlen:(Pg.bodyL (rs.drop (k+1))).length+rs[k].size≤4096:=by
        have h1:=Pg.bodyL_length (rs.drop k)
        rw[HBD.out,List.length_append]at h1
        have h2:=Pg.sumSizes_append (rs.take k) (rs.drop k)
        rw[List.take_append_drop]at h2
        have h3:rs[k].data.toList.length=rs[k].size:=by simp
        omega
       clear hcell
       generalize hr:rs[k]=r at hcw hlen HBD
       clear hr
       go_wp2_with (go_at_call 175;refine(write_any _ _ _ _ _ _ HD4.out ?_ ?_).mono ?_;(omega);(omega);rintro e w2 ⟨rfl,hbld2,hk2⟩)
       go_roundw
       case rel=>exact⟨k,by omega,rfl,by rw[HBD.out];exact hbld2,HK4.out.trans hk2⟩
       case measure=>simp[intOf]
    case rest=>
     obtain⟨hbld5,hkept5⟩:=hcut
     have HD5:=Hq hbld5
     have HK5:=Hq hkept5
     have hWd:wm.heap.size≤wc.heap.size:=hkept5.size
     have hx5:wc.heap[w.heap.size]? =some (.cells #[x.lsn,x.kind,x.link,.slice A rs.length c] 151 (0,0)):=by
      have hz:=HZ3.out
      rw[HK5.out.block _ (by omega) (by omega)];exact HX.out
     have d0:wc.cell? ⟨w.heap.size,0,none⟩=some (.int .i64 x.lsn):=by rw[cell_of_blk hx5];rfl
     have d1:wc.cell? ⟨w.heap.size,1,none⟩=some (.int .i64 x.kind):=by rw[cell_of_blk hx5];rfl
     have d2:wc.cell? ⟨w.heap.size,2,none⟩=some (.int .i64 x.link):=by rw[cell_of_blk hx5];rfl
     have d3:wc.cell? ⟨w.heap.size,3,none⟩=some (.slice A rs.length c):=by rw[cell_of_blk hx5];rfl
     have HX5:=Hq hx5
     clear hbld5 hkept5 hx5 c0 c1 c2 c3
     obtain⟨wd,rfl⟩:=ex wc
     go_upto_region 20 with(fail)
     have hXl:w.heap.size<wd.heap.size:=by have:=HZ3.out;omega
     have hbr:Below wd.heap.size wd wd:=Below.refl _ _
     obtain⟨at_,hat⟩:=ex (512-Pg.sumSizes rs:Nat)
     rw[← hat]
     have HAT:=Hq hat
     clear hat
     have z1:(Oct.putB 0 4).size=4:=Oct.putB_size 0 4 (by omega)
     have z2:(Oct.putB x.lsn 6).size=6:=Oct.putB_size x.lsn 6 (by omega)
     have z3:(Oct.putB x.kind 1).size=1:=Oct.putB_size x.kind 1 (by omega)
     have z4:(Oct.putB 0 1).size=1:=Oct.putB_size 0 1 (by omega)
     have z5:(Oct.putB x.link 3).size=3:=Oct.putB_size x.link 3 (by omega)
     have z6:(Oct.putB rs.length 2).size=2:=Oct.putB_size rs.length 2 (by omega)
     have z7:(Oct.putB at_ 2).size=2:=Oct.putB_size at_ 2 (by omega)
     go_cut [10] (fun s10 we=>s10= .string (Oct.putB 0 4++Oct.putB x.lsn 6++Oct.putB x.kind 1++Oct.putB 0 1++Oct.putB x.link 3++Oct.putB rs.length 2++Oct.putB at_ 2)∧Below wd.heap.size wd we)
     case first=>
      go_region_held3 (fun w'=>w'.cell? ⟨w.heap.size,0,none⟩=some (.int .i64 x.lsn)∧w'.cell? ⟨w.heap.size,1,none⟩=some (.int .i64 x.kind)∧w'.cell? ⟨w.heap.size,2,none⟩=some (.int .i64 x.link)∧w'.cell? ⟨w.heap.size,3,none⟩=some (.slice A rs.length c)∧Below wd.heap.size wd w') (first|assumption|exact⟨d0,d1,d2,d3,hbr.drew⟩|go_keep) (first|(go_at_call 153;refine(put_held _ _ (by omega) (by omega) w.heap.size _ _ _ _ wd _ hXl (by assumption)).mono ?_;rintro e w1 ⟨rfl,hS⟩))
      go_wp2_with fail
      go_meet
      case rel=>exact⟨rfl,hS.2.2.2.2⟩
     case rest=>
      obtain⟨rfl,hbe⟩:=hcut
      have hz:=HZ3.out
      have hbe2:=hbe.size
      have hWm:W3.heap.size≤wm.heap.size:=HK.out.size
      obtain⟨F,hF⟩:=ex (Oct.putB 0 4++Oct.putB x.lsn 6++Oct.putB x.kind 1++Oct.putB 0 1++Oct.putB x.link 3++Oct.putB rs.length 2++Oct.putB at_ 2:ByteArray)
      have hFs:F.size=19:=by rw[hF];simp only[ByteArray.size_append,z1,z2,z3,z4,z5,z6,z7]
      rw[← hF]
      obtain⟨S,hS⟩:=ex (⟨(Pg.slotsL 512 rs).toArray⟩:ByteArray)
      have hSs:S.size≤4096:=by rw[hS];show(Pg.slotsL 512 rs).toArray.size≤_;simp[Pg.slotsL_length];omega
      obtain⟨B,hB⟩:=ex (⟨(Pg.bodyL rs).toArray⟩:ByteArray)
      have hBs:B.size≤4096:=by rw[hB];show(Pg.bodyL rs).toArray.size≤_;simp[Pg.bodyL_length];omega
      obtain⟨room,hroom⟩:=ex (512-Pg.sizeN rs:Nat)
      have hfit:=HFIT.out
      have hri:(512:Int)-(Pg.sizeN rs:Int)=(room:Int):=by omega
      have hr512:room≤512:=by omega
      obtain⟨R,hR⟩:=ex (⟨(Lib.repeatL (⟨#[0]⟩:ByteArray).data.toList room).toArray⟩:ByteArray)
      have hRl:R.data.toList=List.replicate room 0:=by
       rw[hR]
       have key:∀ n,Lib.repeatL (⟨#[0]⟩:ByteArray).data.toList n=List.replicate n 0:=fun n=>by
        induction n with
        |zero=>rfl
        |succ n ih=>rw[Lib.repeatL,ih];rfl
       rw[key]
      have hRs:R.size=room:=by
       have:R.data.toList.length=R.size:=by simp
       rw[← this,hRl,List.length_replicate]
      have b4:Bld W3.heap.size wm.heap.size (w.heap.size+1) (Pg.slotsL 512 rs) wc:=((HD.out.later (Nat.le_refl _)).kept (fun k hk _=>HK5.out.block k (by omega) (by omega))).below hbe
      have HB4:=Hq b4
      have hc1:∀ W,Bld W3.heap.size wm.heap.size (w.heap.size+1) (Pg.slotsL 512 rs) W→Calls Tryz.prog 176 #[.pointer (some ⟨w.heap.size+1,0,none⟩)] W fun e w'=>e= .returned (.string S)∧KeptR W3.heap.size wm.heap.size W w':=fun W h=>by
       rw[hS];exact string_any _ _ _ _ W h
      have hc2:∀ W,Bld wm.heap.size wd.heap.size (w.heap.size+1+1) (Pg.bodyL rs) W→Calls Tryz.prog 176 #[.pointer (some ⟨w.heap.size+1+1,0,none⟩)] W fun e w'=>e= .returned (.string B)∧KeptR wm.heap.size wd.heap.size W w':=fun W h=>by
       rw[hB];exact string_any _ _ _ _ W h
      have hc3:∀ W,Calls Tryz.prog 177 #[.string ⟨#[0]⟩,.int .i64 (room:Int)] W fun e w'=>e= .returned (.string R)∧Below W.heap.size W w':=fun W=>by
       rw[hR];exact Tryz.strings_Repeat ⟨#[0]⟩ room W (by omega) (by show 1*room≤_;omega)
      have HC1:=Hq hc1
      have HC2':=Hq hc2
      have HC3:=Hq hc3
      have HF:=Hq hF
      have HS:=Hq hS
      have HB':=Hq hB
      have HRl:=Hq hRl
      have HRm:=Hq hroom
      rw[hri]
      clear hc1 hc2 hc3 hF hS hB hRl hR hri hroom b4 z1 z2 z3 z4 z5 z6 z7 d0 d1 d2 d3
      have HB5:=Hq (show ∀ W V,KeptR W3.heap.size wm.heap.size wc W→Below W.heap.size W V→Bld wm.heap.size wd.heap.size (w.heap.size+1+1) (Pg.bodyL rs) V from fun W V k1 k2=>
       ((HD5.out.below hbe).kept (fun k hk hor=>k1.block k (by have:=hbe.size;omega) (by omega))).below k2)
      go_wp2_with (first|(go_at_call 176;(with_reducible refine(HC1.out _ ?_).mono ?_);(exact HB4.out);rintro e w1 ⟨rfl,hk1⟩)|(go_at_call 177;refine(HC3.out _).mono ?_;rintro e w2 ⟨rfl,hk2⟩)|(go_at_call 176;(with_reducible refine(HC2'.out _ ?_).mono ?_);(exact HB5.out _ _ hk1 hk2);rintro e w3 ⟨rfl,hk3⟩))
      go_ret
      refine⟨ret_str ?_,?_⟩
      ·rw[HL.out,Pg.layR,if_neg HFIT.out]
       apply ByteArray.ext
       have e1:F.data.toList=Pg.headL x rs.length (512-Pg.sumSizes rs):=by
        rw[HF.out,Pg.headL]
        simp only[ByteArray.data_append,Array.toList_append]
        have q1:(Oct.putB 0 4).data.toList=Oct.putL 0 4:=Oct.putB_list 0 4 (by omega)
        have q4:(Oct.putB 0 1).data.toList=Oct.putL 0 1:=Oct.putB_list 0 1 (by omega)
        obtain⟨y1,y2,y3⟩:=HXS.out
        have q2:(Oct.putB x.lsn 6).data.toList=Oct.putL x.lsn 6:=(Oct.putB_list x.lsn 6 (by omega)).trans (by rw[Oct.word_nat _ (by omega)])
        have q3:(Oct.putB x.kind 1).data.toList=Oct.putL x.kind 1:=(Oct.putB_list x.kind 1 (by omega)).trans (by rw[Oct.word_nat _ (by omega)])
        have q5:(Oct.putB x.link 3).data.toList=Oct.putL x.link 3:=(Oct.putB_list x.link 3 (by omega)).trans (by rw[Oct.word_nat _ (by omega)])
        have q6:(Oct.putB rs.length 2).data.toList=Oct.putL rs.length 2:=(Oct.putB_list rs.length 2 (by omega)).trans (by rw[Oct.word_nat _ (by omega)])
        have q7:(Oct.putB at_ 2).data.toList=Oct.putL (512-Pg.sumSizes rs) 2:=(Oct.putB_list at_ 2 (by omega)).trans (by rw[Oct.word_nat _ (by have:=HAT.out;omega),HAT.out])
        rw[q1,q2,q3,q4,q5,q6,q7]
       have e2:S.data.toList=Pg.slotsL 512 rs:=by rw[HS.out]
       have e3:B.data.toList=Pg.bodyL rs:=by rw[HB'.out]
       apply Array.toList_inj.1
       simp only[ByteArray.data_append,Array.toList_append,e1,e2,e3,HRl.out,HRm.out]
      ·exact(((((HB3.out.trans (HK.out.below (by omega) (by omega))).trans (HK5.out.below (by omega) (by omega))).trans (hbe.mono (by omega))).trans (hk1.below (by omega) (by omega))).trans (hk2.mono (by have:=hk1.size;omega))).trans (hk3.below (by omega) (by have:=hk1.size;have:=hk2.size;omega))
theorem rput_S (S:World→Prop)(hst:∀ u v,S u→Below u.heap.size u v→S v)(n size:Int)(h0:0≤size)(h8:size≤8)(w:World)(h:S w):
 Calls Tryz.prog 73 #[n,size] w fun e w'=>e= .returned (.string (Oct.putB n size))∧S w':=by
 refine(rput_any n size h0 h8 w).mono ?_
 rintro e w' ⟨rfl,hb⟩
 exact⟨rfl,hst _ _ h hb⟩
theorem rtrimmed_any (A:Option Addr)(c:Nat)(rs:List ByteArray)(hl:rs.length≤1099511627776)(w:World)(h:Cells w A c rs):
 Calls Tryz.prog 71 #[.slice A rs.length c] w fun e w'=>e= .returned (.slice A (Pg.trimN rs rs.length) c)∧w=w':=by
 have HC:=Hq h
 clear h
 go_enter Tryz.func71,Tryz.ntmps71
 go_wp2_with fail
 go_loop [0] (fun v=>∃ m:Nat,m≤rs.length∧Pg.trimN rs m=Pg.trimN rs rs.length∧v= .slice A m c) (fun v=>match v with| .slice _ m _=>m|_=>0)
 case atStart=>exact⟨rs.length,Nat.le_refl _,rfl,rfl⟩
 case round=>
  obtain⟨m,hm,ht,rfl⟩:=hrel
  have HT:=Hq ht
  clear ht
  by_cases h0:m=0
  ·subst h0
   go_wp2_with fail
   go_ret
   exact⟨by rw[← HT.out];rfl,rfl⟩
  ·obtain⟨b,off,rfl,hc,hbl,hcell⟩:=HC.out.at_ (k:=m-1) (by omega)
   obtain⟨m,rfl⟩:∃ n,m=n+1:=⟨m-1,by omega⟩
   simp only[Nat.add_sub_cancel]at hcell
   have hie:=empty_iff rs[m]
   have HR:=Hq (show rs[m]?.getD ⟨#[]⟩=rs[m] by simp[show m<rs.length by omega])
   generalize hr:rs[m]=r at hcell hie HR
   clear hr
   by_cases he:r.size=0
   ·have hie2:r.toList.isEmpty=true:=by rw[hie];exact decide_eq_true he
    clear hie
    have HE:=Hq he
    clear he
    go_wp2_with fail
    go_round
    case rel=>exact⟨m,by omega,by rw[← HT.out,Pg.trimN,HR.out,if_pos HE.out],rfl⟩
    case measure=>simp
   ·have hie2:r.toList.isEmpty=false:=by rw[hie];exact decide_eq_false he
    clear hie
    have HE:=Hq he
    clear he
    go_wp2_with fail
    go_ret
    exact⟨by rw[← HT.out,Pg.trimN,HR.out,if_neg HE.out];rfl,rfl⟩
theorem rfits_any (x:Pg.Leaf)(A:Option Addr)(c:Nat)(rs:List ByteArray)(hb:Pg.sizeN rs≤1099511627776)(w:World)(h:Cells w A c rs):
 Calls Tryz.prog 72 #[.agg #[x.lsn,x.kind,x.link,.slice A rs.length c]] w fun e w'=>e= .returned (.bool (decide (Pg.sizeN rs≤512)))∧Below w.heap.size w w':=by
 unfold Pg.sizeN at hb
 have HC:=Hq h
 clear h
 go_enter Tryz.func72,Tryz.ntmps72
 go_wp2_with fail
 go_loop [3,4] (fun n i=>∃ k:Nat,k≤rs.length∧i= .int .i64 k∧n= .int .i64 ((19+4*rs.length+Pg.sumSizes (rs.take k):Nat):Int)) (fun _ i=>rs.length-(intOf i).toNat)
 case atStart=>exact⟨0,Nat.zero_le _,rfl,by simp[Pg.sumSizes]⟩
 case round=>
  obtain⟨k,hk,rfl,rfl⟩:=hrel
  have hle:=Pg.sumSizes_take_le rs k
  by_cases hlt:k<rs.length
  ·obtain⟨b,off,rfl,hc,hbl,hcell⟩:=HC.out.at_ hlt
   have HS:=Hq (Pg.sumSizes_snoc rs k hlt)
   have hle2:=Pg.sumSizes_take_le rs (k+1)
   have hsz:Pg.sumSizes (rs.take k)+rs[k].size≤Pg.sumSizes rs:=by rw[← HS.out];exact hle2
   have hcc:(World.cell? (w.alloc (.cells #[x.lsn,x.kind,x.link,.slice (some ⟨b,off,none⟩) rs.length c] 95)) ⟨b,off+k,none⟩)=some (.string rs[k]):=by
    rw[World.cell?_alloc_lt _ _ _ hbl];exact hcell
   clear hle2
   generalize hr:rs[k]=r at hcell hsz hcc
   have HR:=Hq hr
   clear hr
   go_wp2_with fail
   go_round
   case rel=>exact⟨k+1,by omega,by go_num,by rw[HS.out,HR.out];go_num⟩
   case measure=>simp[intOf];omega
  ·obtain rfl:k=rs.length:=by omega
   go_wp2_with fail
   go_ret
   exact⟨congrArg (fun b=>Ending.returned (.bool b)) (by unfold Pg.sizeN;rw[decide_eq_decide];omega),(Below.refl _ _).alloc (Nat.le_refl _) _⟩
theorem rfits_is (x:Pg.Leaf)(A:Option Addr)(c:Nat)(rs:List ByteArray)(hb:Pg.sizeN rs≤1099511627776)(b:Bool)(hd:decide (Pg.sizeN rs≤512)=b)(w:World)(h:Cells w A c rs):
 Calls Tryz.prog 72 #[.agg #[x.lsn,x.kind,x.link,.slice A rs.length c]] w fun e w'=>e= .returned (.bool b)∧Below w.heap.size w w':=by
 subst hd;exact rfits_any x A c rs hb w h
theorem Cells.take {w:World}{A:Option Addr}{c:Nat}{rs:List ByteArray}(h:Cells w A c rs)(m:Nat)(hm:m≤rs.length):Cells w A c (rs.take m):=fun h0=>by
 rw[List.length_take]at h0
 obtain⟨b,off,hA,hc,hlt,hcell⟩:=h (by omega)
 refine⟨b,off,hA,by rw[List.length_take];omega,hlt,fun j hj=>?_⟩
 rw[List.getElem_take];exact hcell j (by rw[List.length_take]at hj;omega)
theorem pmake_zeros (n:Nat)(hn:n≤4096)(W:World):(Instr.makeSlice 112 (.int .i64 (n:Int)) (.int .i64 (n:Int))).run Tryz.prog W= .ok (.slice (some ⟨W.heap.size,0,none⟩) n n) (W.alloc (.cells (madeCells #[Value.int .u8 0] n) 5)):=by
 obtain⟨i0,hi,hz0,hz1,hz2⟩:=info_parts Tryz.elem8
 have h:=run_make (P:=Tryz.prog) W 112 5 i0 (.int .u8 0) Tryz.underlying112 hi hz0 .i64 .i64 n n (by omega) (by omega) (by rw[hz2];omega) (by omega)
 rw[hz1,Int.toNat_natCast,Nat.mul_one]at h
 exact h
theorem pzeros_back (n:Nat)(W:World):(convert 112 9 (.slice (some ⟨W.heap.size,0,none⟩) n n)).run Tryz.prog (W.alloc (.cells (madeCells #[Value.int .u8 0] n) 5))= .ok (.string ⟨(List.replicate n 0).toArray⟩) (W.alloc (.cells (madeCells #[Value.int .u8 0] n) 5)):=by
 have h:=run_convert_bytes_back (P:=Tryz.prog) (W.alloc (.cells (madeCells #[Value.int .u8 0] n) 5)) 112 9 5 ⟨W.heap.size,0,none⟩ n (List.replicate n 0) Tryz.underlying112 Tryz.underlying5 Tryz.underlying9 (fun j hj=>by
  have hj':j<n:=by simpa using hj
  have ha:(⟨W.heap.size,0,none⟩:Addr).add j=⟨W.heap.size,j,none⟩:=by
   unfold Addr.add;split
   ·rename_i h;rw[h]
   ·simp
  rw[ha,World.cell?_alloc_new]
  simp[madeCells,hj',Nat.mod_one])
 rw[List.length_replicate]at h
 exact h
theorem rlay_any (x:Pg.Leaf)(A:Option Addr)(c:Nat)(hx:Pg.Small x)(hb:Pg.sizeN x.recs≤1099511627776)(w:World)(h:Cells w A c x.recs):
 Calls Tryz.prog 31 #[.agg #[x.lsn,x.kind,x.link,.slice A x.recs.length c]] w fun e w'=>e= .returned (.string ⟨(Pg.layL x).toArray⟩)∧Below w.heap.size w w':=by
 have HXS:=Hq hx
 clear hx
 have hbn:x.recs.length≤1099511627776:=by unfold Pg.sizeN at hb;omega
 have hm:=Pg.trimN_le x.recs x.recs.length
 have HL:=Hq (show Pg.layL x=Pg.layR x (x.recs.take (Pg.trimN x.recs x.recs.length))from rfl)
 have HC:=Hq (h.take _ hm)
 have HA:=Hq h
 have hsz:Pg.sizeN (x.recs.take (Pg.trimN x.recs x.recs.length))≤1099511627776:=by
  have:=Pg.sumSizes_take_le x.recs (Pg.trimN x.recs x.recs.length)
  unfold Pg.sizeN at*
  rw[List.length_take];omega
 have hlen:(x.recs.take (Pg.trimN x.recs x.recs.length)).length=Pg.trimN x.recs x.recs.length:=by rw[List.length_take];omega
 have HT:=Hq (fun W hW=>rtrimmed_any A c x.recs hbn W hW)
 rw[← hlen]at HT
 generalize x.recs.take (Pg.trimN x.recs x.recs.length)=rs at HL HC hsz hlen HT
 clear h hb hm hlen
 by_cases hfit:512<Pg.sizeN rs
 ·have HFi:=Hq (rfits_is x A c rs hsz false (decide_eq_false (by omega)))
  go_enter Tryz.func31,Tryz.ntmps31
  go_wp2_with (first|(go_at_call 71;refine(HT.out _ (HA.out.below ((Below.refl _ _).alloc (Nat.le_refl _) _))).mono ?_;rintro e w' ⟨rfl,rfl⟩)|(go_at_call 72;refine(HFi.out _ (HC.out.below ((Below.refl _ _).alloc (Nat.le_refl _) _))).mono ?_;rintro e w1 ⟨rfl,hb1⟩))
  go_ret
  exact⟨ret_str (by rw[HL.out,Pg.layR,if_pos hfit]),((Below.refl _ _).alloc (Nat.le_refl _) _).trans (hb1.mono (by simp))⟩
 ·have HFi:=Hq (rfits_is x A c rs hsz true (decide_eq_true (by omega)))
  go_enter Tryz.func31,Tryz.ntmps31
  go_upto_block 0 with(first|(go_at_call 71;refine(HT.out _ (HA.out.below ((Below.refl _ _).alloc (Nat.le_refl _) _))).mono ?_;rintro e w' ⟨rfl,rfl⟩)|(go_at_call 72;refine(HFi.out _ (HC.out.below ((Below.refl _ _).alloc (Nat.le_refl _) _))).mono ?_;rintro e w1 ⟨rfl,hb1⟩))
  have hs512:Pg.sumSizes rs≤512:=by unfold Pg.sizeN at hfit;omega
  have hn123:rs.length≤512:=by unfold Pg.sizeN at hfit;omega
  have hX:w.heap.size<w1.heap.size:=by have:=hb1.size;simp at this;omega
  have hw1:Below w.heap.size w w1:=((Below.refl _ _).alloc (Nat.le_refl _) _).trans (hb1.mono (by simp))
  have hx1:w1.heap[w.heap.size]? =some (.cells #[x.lsn,x.kind,x.link,.slice A rs.length c] 95 (0,0)):=by
   rw[hb1.block _ (by simp)]
   exact heap_alloc_new w _
  have HW1:=Hq hw1
  have HX1:=Hq hx1
  have HFIT:=Hq hfit
  clear hb1 hw1 hx1 hfit
  go_cut [3,4,5] (fun s3 s4 s5 wc=>s3= .int .i64 ((512-Pg.sumSizes rs:Nat):Int)∧s4= .string ⟨(Pg.slotsL 512 rs).toArray⟩∧s5= .string ⟨(Pg.bodyL rs).toArray⟩∧Below w1.heap.size w1 wc)
  case first=>
   go_wp2_with fail
   go_loopw [3,4,5,6] (fun s3 s4 s5 i wr=>∃ (k a:Nat) (S B:ByteArray),k≤rs.length∧i= .int .i64 k∧s3= .int .i64 (a:Int)∧a=512-Pg.sumSizes (rs.take k)∧s4= .string S∧S.data.toList=Pg.slotsL 512 (rs.take k)∧s5= .string B∧B.data.toList=Pg.bodyL (rs.take k)∧Below w1.heap.size w1 wr) (fun _ _ _ i _=>rs.length-(intOf i).toNat)
   case atStart=>exact⟨0,512,⟨#[]⟩,⟨#[]⟩,Nat.zero_le _,rfl,rfl,by simp[Pg.sumSizes],rfl,rfl,rfl,rfl,Below.refl _ _⟩
   case round=>
    obtain⟨k,a,S,B,hk,rfl,rfl,ha,rfl,hS,rfl,hB,hbw⟩:=hrel
    have d3:wr.cell? ⟨w.heap.size,3,none⟩=some (.slice A rs.length c):=by
     have:wr.heap[w.heap.size]? =_:=(hbw.block _ hX).trans HX1.out
     rw[cell_of_blk this];rfl
    have ha512:a≤512:=by omega
    have hSs:S.size≤4096:=by
     have h1:S.data.toList.length=S.size:=by simp
     rw[hS,Pg.slotsL_length,List.length_take]at h1;omega
    have hBs:B.size≤512:=by
     have h1:B.data.toList.length=B.size:=by simp
     have:=Pg.sumSizes_take_le rs k
     rw[hB,Pg.bodyL_length]at h1;omega
    have HA3:=Hq ha
    have HS:=Hq hS
    have HB:=Hq hB
    have hbs:=hbw.size
    clear ha hS hB
    by_cases hlt:k<rs.length
    ·obtain⟨b,off,rfl,hc,hbl,hcell⟩:=HC.out.at_ hlt
     have hcw:wr.cell? ⟨b,off+k,none⟩=some (.string rs[k]):=by
      rw[hbw.cell (p:=⟨b,off+k,none⟩) (by show b<_;omega),HW1.out.cell (p:=⟨b,off+k,none⟩) hbl];exact hcell
     have HSS:=Hq (Pg.sumSizes_snoc rs k hlt)
     have HSL:=Hq (Pg.slotsL_snoc rs k hlt)
     have HBL:=Hq (Pg.bodyL_snoc rs k hlt)
     have hra:rs[k].size≤a:=by
      have:=Pg.sumSizes_take_le rs (k+1)
      have:=HSS.out
      have:=HA3.out
      omega
     have hie:=empty_iff rs[k]
     clear hcell
     generalize hr:rs[k]=r at hcw hie HSS HSL HBL hra
     clear hr
     by_cases he:r.size=0
     ·have hie2:r.toList.isEmpty=true:=by rw[hie];exact decide_eq_true he
      clear hie
      have HE:=Hq he
      clear he
      have z0:(Oct.putB 0 4).size=4:=Oct.putB_size 0 4 (by omega)
      go_wp2_with (go_at_call 73;refine(rput_any _ _ (by omega) (by omega) _).mono ?_;rintro e w2 ⟨rfl,hb2⟩)
      go_roundw
      case rel=>exact⟨k+1,a,_,B,by omega,by go_num,rfl,by rw[HSS.out,HE.out];exact HA3.out,rfl,by
       rw[HSL.out,Pg.slotL,if_pos HE.out,ByteArray.data_append,Array.toList_append,HS.out,show(Oct.putB 0 4).data.toList=Oct.putL 0 4 from Oct.putB_list 0 4 (by omega)],rfl,by
       rw[HBL.out,HB.out,show r.data.toList=[]from List.eq_nil_of_length_eq_zero (by have h9:r.data.toList.length=r.size:=(by simp);rw[h9];exact HE.out)];rfl,andThen hbw hb2⟩
      case measure=>simp[intOf];omega
     ·have hie2:r.toList.isEmpty=false:=by rw[hie];exact decide_eq_false he
      clear hie
      have HE:=Hq he
      clear he
      obtain⟨a2,ha2⟩:=ex (a-r.size:Nat)
      have ha2i:(a:Int)-(r.size:Int)=(a2:Int):=by omega
      have hst:∀ u v:World,(u.cell? ⟨w.heap.size,3,none⟩=some (.slice (some ⟨b,off,none⟩) rs.length c)∧u.cell? ⟨b,off+k,none⟩=some (.string r)∧Below w1.heap.size w1 u)→Below u.heap.size u v→(v.cell? ⟨w.heap.size,3,none⟩=some (.slice (some ⟨b,off,none⟩) rs.length c)∧v.cell? ⟨b,off+k,none⟩=some (.string r)∧Below w1.heap.size w1 v):=fun u v ⟨c1,c2,c3⟩ hb=>by
       have:=c3.size
       refine⟨?_,?_,andThen c3 hb⟩
       ·rw[hb.cell (p:=⟨w.heap.size,3,none⟩) (by show w.heap.size<_;omega)];exact c1
       ·rw[hb.cell (p:=⟨b,off+k,none⟩) (by show b<_;omega)];exact c2
      have HST:=Hq hst
      have hk0:(0:Int)≤(k:Int):=by omega
      have hk1:(k:Int)<(rs.length:Int):=by omega
      have z1:(Oct.putB a2 2).size=2:=Oct.putB_size a2 2 (by omega)
      have z2:(Oct.putB r.size 2).size=2:=Oct.putB_size r.size 2 (by omega)
      have HR2:=Hq ha2
      have hadd:∀ W:World,(Op.stringOp .add S (Oct.putB a2 2++Oct.putB r.size 2)).run Tryz.prog W= .ok (.string (S++(Oct.putB a2 2++Oct.putB r.size 2))) W:=fun W=>run_string_add_sum W _ _ (by rw[ByteArray.size_append,z1,z2];omega)
      have hr512:r.size≤512:=by omega
      clear hst ha2
      go_upto_region 12 with(fail)
      clear ha2i
      go_region_held3 (fun w'=>w'.cell? ⟨w.heap.size,3,none⟩=some (.slice (some ⟨b,off,none⟩) rs.length c)∧w'.cell? ⟨b,off+k,none⟩=some (.string r)∧Below w1.heap.size w1 w') (first|assumption|exact⟨d3,hcw,hbw.drew⟩|go_keep) (first|(go_at_call 73;refine(rput_S _ HST.out _ _ (by omega) (by omega) _ (by assumption)).mono ?_;rintro e w2 ⟨rfl,hSS⟩))
      obtain⟨e1,e2,hb2⟩:=hSS
      go_wp2_with fail
      go_roundw
      case rel=>
       refine⟨k+1,a2,_,_,by omega,by go_num,rfl,?_,rfl,?_,rfl,?_,hb2⟩
       ·rw[HSS.out,HR2.out,HA3.out];omega
       ·have q1:(Oct.putB a2 2).data.toList=Oct.putL a2 2:=(Oct.putB_list a2 2 (by omega)).trans (by rw[Oct.word_nat _ (by have:=HR2.out;omega)])
        have q2:(Oct.putB r.size 2).data.toList=Oct.putL r.size 2:=(Oct.putB_list r.size 2 (by omega)).trans (by rw[Oct.word_nat _ (by omega)])
        simp only[ByteArray.data_append,Array.toList_append]
        rw[HSL.out,Pg.slotL,if_neg HE.out,HS.out,← HA3.out,q1,q2,HR2.out]
       ·simp only[ByteArray.data_append,Array.toList_append]
        rw[HBL.out,HB.out]
      case measure=>simp[intOf];omega
    ·obtain rfl:k=rs.length:=by omega
     have HT2:=Hq (List.take_length (l:=rs))
     go_wp2_with fail
     go_meet
     case rel=>
      have h1:=HS.out
      have h2:=HB.out
      rw[HT2.out]at h1 h2
      exact⟨by rw[HA3.out,HT2.out],by rw[← h1],by rw[← h2],hbw⟩
  case rest=>
   obtain⟨rfl,rfl,rfl,hbw⟩:=hcut
   obtain⟨wd,rfl⟩:=ex wc
   obtain⟨S,hS⟩:=ex (⟨(Pg.slotsL 512 rs).toArray⟩:ByteArray)
   obtain⟨B,hB⟩:=ex (⟨(Pg.bodyL rs).toArray⟩:ByteArray)
   obtain⟨at_,hat⟩:=ex (512-Pg.sumSizes rs:Nat)
   rw[← hS,← hB,← hat]
   have hSs:S.size=4*rs.length:=by rw[hS];show(Pg.slotsL 512 rs).toArray.size=_;simp[Pg.slotsL_length]
   have hBs:B.size≤4096:=by rw[hB];show(Pg.bodyL rs).toArray.size≤_;simp[Pg.bodyL_length];omega
   have hx:wd.heap[w.heap.size]? =some (.cells #[x.lsn,x.kind,x.link,.slice A rs.length c] 95 (0,0)):=(hbw.block _ hX).trans HX1.out
   have d0:wd.cell? ⟨w.heap.size,0,none⟩=some (.int .i64 x.lsn):=by rw[cell_of_blk hx];rfl
   have d1:wd.cell? ⟨w.heap.size,1,none⟩=some (.int .i64 x.kind):=by rw[cell_of_blk hx];rfl
   have d2:wd.cell? ⟨w.heap.size,2,none⟩=some (.int .i64 x.link):=by rw[cell_of_blk hx];rfl
   have d3:wd.cell? ⟨w.heap.size,3,none⟩=some (.slice A rs.length c):=by rw[cell_of_blk hx];rfl
   have hst:∀ u v:World,(u.cell? ⟨w.heap.size,0,none⟩=some (.int .i64 x.lsn)∧u.cell? ⟨w.heap.size,1,none⟩=some (.int .i64 x.kind)∧u.cell? ⟨w.heap.size,2,none⟩=some (.int .i64 x.link)∧u.cell? ⟨w.heap.size,3,none⟩=some (.slice A rs.length c)∧Below w1.heap.size w1 u)→Below u.heap.size u v→(v.cell? ⟨w.heap.size,0,none⟩=some (.int .i64 x.lsn)∧v.cell? ⟨w.heap.size,1,none⟩=some (.int .i64 x.kind)∧v.cell? ⟨w.heap.size,2,none⟩=some (.int .i64 x.link)∧v.cell? ⟨w.heap.size,3,none⟩=some (.slice A rs.length c)∧Below w1.heap.size w1 v):=fun u v ⟨c0,c1,c2,c3,c4⟩ hb=>by
    have:=c4.size
    refine⟨?_,?_,?_,?_,andThen c4 hb⟩
    ·rw[hb.cell (p:=⟨w.heap.size,0,none⟩) (by show w.heap.size<_;omega)];exact c0
    ·rw[hb.cell (p:=⟨w.heap.size,1,none⟩) (by show w.heap.size<_;omega)];exact c1
    ·rw[hb.cell (p:=⟨w.heap.size,2,none⟩) (by show w.heap.size<_;omega)];exact c2
    ·rw[hb.cell (p:=⟨w.heap.size,3,none⟩) (by show w.heap.size<_;omega)];exact c3
   have HST:=Hq hst
   have z1:(Oct.putB 0 4).size=4:=Oct.putB_size 0 4 (by omega)
   have z2:(Oct.putB x.lsn 6).size=6:=Oct.putB_size x.lsn 6 (by omega)
   have z3:(Oct.putB x.kind 1).size=1:=Oct.putB_size x.kind 1 (by omega)
   have z4:(Oct.putB 0 1).size=1:=Oct.putB_size 0 1 (by omega)
   have z5:(Oct.putB x.link 3).size=3:=Oct.putB_size x.link 3 (by omega)
   have z6:(Oct.putB rs.length 2).size=2:=Oct.putB_size rs.length 2 (by omega)
   have z7:(Oct.putB at_ 2).size=2:=Oct.putB_size at_ 2 (by omega)
   have HS:=Hq hS
   have HB:=Hq hB
   have HAT:=Hq hat
   have HSs:=Hq hSs
   have hSs2:S.size≤4096:=by omega
   clear hS hB hat hst hx hSs
   go_upto_region 14 with(fail)
   go_cut [7] (fun s7 we=>s7= .string (Oct.putB 0 4++Oct.putB x.lsn 6++Oct.putB x.kind 1++Oct.putB 0 1++Oct.putB x.link 3++Oct.putB rs.length 2++Oct.putB at_ 2)∧Below w1.heap.size w1 we)
   case first=>
    go_region_held3 (fun w'=>w'.cell? ⟨w.heap.size,0,none⟩=some (.int .i64 x.lsn)∧w'.cell? ⟨w.heap.size,1,none⟩=some (.int .i64 x.kind)∧w'.cell? ⟨w.heap.size,2,none⟩=some (.int .i64 x.link)∧w'.cell? ⟨w.heap.size,3,none⟩=some (.slice A rs.length c)∧Below w1.heap.size w1 w') (first|assumption|exact⟨d0,d1,d2,d3,hbw.drew⟩|go_keep) (first|(go_at_call 73;refine(rput_S _ HST.out _ _ (by omega) (by omega) _ (by assumption)).mono ?_;rintro e w2 ⟨rfl,hSS⟩))
    go_wp2_with fail
    go_meet
    case rel=>exact⟨rfl,hSS.2.2.2.2⟩
   case rest=>
    obtain⟨rfl,hbe⟩:=hcut
    obtain⟨F,hF⟩:=ex (Oct.putB 0 4++Oct.putB x.lsn 6++Oct.putB x.kind 1++Oct.putB 0 1++Oct.putB x.link 3++Oct.putB rs.length 2++Oct.putB at_ 2:ByteArray)
    have hFs:F.size=19:=by rw[hF];simp only[ByteArray.size_append,z1,z2,z3,z4,z5,z6,z7]
    rw[← hF]
    have hfit:=HFIT.out
    obtain⟨room,hroom⟩:=ex (512-Pg.sizeN rs:Nat)
    have hri:(at_:Int)-19-(S.size:Int)=(room:Int):=by
     have h1:=HAT.out
     have h2:=HSs.out
     unfold Pg.sizeN at hroom hfit
     omega
    have hr512:room≤512:=by omega
    have hat2:at_≤512:=by have:=HAT.out;omega
    have hmk:=pmake_zeros room (by omega)
    have hcv:=pzeros_back room
    obtain⟨R,hR⟩:=ex (⟨(List.replicate room 0).toArray⟩:ByteArray)
    rw[← hR]at hcv
    have hRs:R.size=room:=by rw[hR];show(List.replicate room (0:UInt8)).toArray.size=_;simp
    have hRs2:R.size≤512:=by omega
    have HF:=Hq hF
    have HR:=Hq hR
    have HRM:=Hq hroom
    clear hF hR hroom hfit hRs z1 z2 z3 z4 z5 z6 z7 d0 d1 d2 d3 hbw
    go_wp2_with fail
    go_ret
    refine⟨ret_str ?_,HW1.out.trans ((hbe.mono (by omega)).trans ((Below.refl _ _).alloc (by have:=hbe.size;omega) _))⟩
    rw[HL.out,Pg.layR,if_neg HFIT.out]
    apply ByteArray.ext
    have e1:F.data.toList=Pg.headL x rs.length (512-Pg.sumSizes rs):=by
     rw[HF.out,Pg.headL]
     simp only[ByteArray.data_append,Array.toList_append]
     obtain⟨y1,y2,y3⟩:=HXS.out
     have q1:(Oct.putB 0 4).data.toList=Oct.putL 0 4:=Oct.putB_list 0 4 (by omega)
     have q4:(Oct.putB 0 1).data.toList=Oct.putL 0 1:=Oct.putB_list 0 1 (by omega)
     have q2:(Oct.putB x.lsn 6).data.toList=Oct.putL x.lsn 6:=(Oct.putB_list x.lsn 6 (by omega)).trans (by rw[Oct.word_nat _ (by omega)])
     have q3:(Oct.putB x.kind 1).data.toList=Oct.putL x.kind 1:=(Oct.putB_list x.kind 1 (by omega)).trans (by rw[Oct.word_nat _ (by omega)])
     have q5:(Oct.putB x.link 3).data.toList=Oct.putL x.link 3:=(Oct.putB_list x.link 3 (by omega)).trans (by rw[Oct.word_nat _ (by omega)])
     have q6:(Oct.putB rs.length 2).data.toList=Oct.putL rs.length 2:=(Oct.putB_list rs.length 2 (by omega)).trans (by rw[Oct.word_nat _ (by omega)])
     have q7:(Oct.putB at_ 2).data.toList=Oct.putL (512-Pg.sumSizes rs) 2:=(Oct.putB_list at_ 2 (by omega)).trans (by rw[Oct.word_nat _ (by omega),HAT.out])
     rw[q1,q2,q3,q4,q5,q6,q7]
    have e2:S.data.toList=Pg.slotsL 512 rs:=by rw[HS.out]
    have e3:B.data.toList=Pg.bodyL rs:=by rw[HB.out]
    have e4:R.data.toList=List.replicate (512-Pg.sizeN rs) 0:=by rw[HR.out,HRM.out]
    apply Array.toList_inj.1
    simp only[ByteArray.data_append,Array.toList_append,e1,e2,e3,e4]
theorem intOf_small (u:Nat)(h:u<281474976710656):Oct.intOf u=(u:Int):=by
 unfold Oct.intOf;rw[if_pos (by omega)]
theorem getN_lt (s:List UInt8)(a k:Nat)(h:k≤6):Oct.getN s a k<281474976710656:=by
 have h1:=Oct.getL_lt ((s.drop a).take k)
 have h2:256^((s.drop a).take k).length≤256^6:=Nat.pow_le_pow_right (by omega) (by rw[List.length_take];omega)
 unfold Oct.getN;omega
theorem num_any (s:ByteArray)(a size:Int)(h0:0≤a)(h1:1≤size)(h6:size≤6)(hin:a+size≤s.size)(hm:s.size≤1048576)(w:World):
 Calls Tryz.prog 194 #[s,a,size] w fun e w'=>e= .returned (.int .i64 (Oct.getN s.data.toList a.toNat size.toNat))∧Below w.heap.size w w':=by
 obtain⟨a,rfl⟩:=Int.eq_ofNat_of_zero_le h0
 obtain⟨k,rfl⟩:=Int.eq_ofNat_of_zero_le (show 0≤size by omega)
 have HC:=Hq (fun W=>get_yes s a k (by omega) (by omega) (by omega) (by omega) W)
 rw[intOf_small _ (getN_lt _ _ _ (by omega))]at HC
 go_enter Tryz.func194,Tryz.ntmps194
 go_wp2_with (go_at_call 236;refine(HC.out _).mono ?_;rintro e w' ⟨rfl,hb⟩)
 go_ret
 exact⟨rfl,hb⟩
theorem prnum_any (s:ByteArray)(a size:Int)(h0:0≤a)(h1:1≤size)(h6:size≤6)(hin:a+size≤s.size)(hm:s.size≤1048576)(w:World):
 Calls Tryz.prog 101 #[s,a,size] w fun e w'=>e= .returned (.int .i64 (Oct.getN s.data.toList a.toNat size.toNat))∧w=w':=by
 obtain⟨a,rfl⟩:=Int.eq_ofNat_of_zero_le h0
 obtain⟨k,rfl⟩:=Int.eq_ofNat_of_zero_le (show 0≤size by omega)
 have HC:=Hq (fun W=>rget_yes s a k (by omega) (by omega) (by omega) (by omega) W)
 rw[intOf_small _ (getN_lt _ _ _ (by omega))]at HC
 go_enter Tryz.func101,Tryz.ntmps101
 go_wp2_with (go_at_call 143;refine(HC.out _).mono ?_;rintro e w' ⟨rfl,rfl⟩)
 go_ret
 exact⟨rfl,rfl⟩
theorem blk4 {w:World}{b:Nat}{T:TypeId}{v0 v1 v2 v3:Value}(h:w.heap[b]? =some (.cells #[v0,v1,v2,v3] T (0,0))):
 w.cell? ⟨b,0,none⟩=some v0∧w.cell? ⟨b,1,none⟩=some v1∧w.cell? ⟨b,2,none⟩=some v2∧w.cell? ⟨b,3,none⟩=some v3∧
 w.frozen? ⟨b,0,none⟩=false∧w.frozen? ⟨b,1,none⟩=false∧w.frozen? ⟨b,2,none⟩=false∧w.frozen? ⟨b,3,none⟩=false:=by
 refine⟨by rw[cell_of_blk h];rfl,by rw[cell_of_blk h];rfl,by rw[cell_of_blk h];rfl,by rw[cell_of_blk h];rfl,?_,?_,?_,?_⟩<;>simp[World.frozen?,h]
theorem blk_new {w w':World}{o:Obj}(hb:Below (w.alloc o).heap.size (w.alloc o) w'):w'.heap[w.heap.size]? =some o:=
 (hb.block _ (by simp)).trans (heap_alloc_new w _)
theorem blk_old {w w':World}{b:Nat}{o:Obj}(h:w.heap[b]? =some o)(hb:Below w.heap.size w w'):w'.heap[b]? =some o:=by
 have hlt:b<w.heap.size:=by
  rcases Nat.lt_or_ge b w.heap.size with h'|h'
  ·exact h'
  ·rw[Array.getElem?_eq_none h']at h;cases h
 rw[hb.block b hlt];exact h
theorem blk_past {w w':World}{b:Nat}{o o2:Obj}(h:w.heap[b]? =some o)(hb:Below (w.alloc o2).heap.size (w.alloc o2) w'):w'.heap[b]? =some o:=by
 have hlt:b<w.heap.size:=by
  rcases Nat.lt_or_ge b w.heap.size with h'|h'
  ·exact h'
  ·rw[Array.getElem?_eq_none h']at h;cases h
 rw[hb.block b (by simp;omega),Below.heap_alloc w o2 b hlt];exact h
theorem below_past {w w':World}{o:Obj}(hb:Below (w.alloc o).heap.size (w.alloc o) w'):Below w.heap.size w w':=
 ((Below.refl _ _).alloc (Nat.le_refl _) _).trans (hb.mono (by simp))
theorem pinfo_string:(Tryz.prog.info? 9).map (fun i=>(i.zero,i.size,i.bytes))=some (some (.string ⟨#[]⟩),1,16):=by kernel_rfl
theorem ownsRow_below {w w':World}{B:Nat}{e:TypeId}{size n:Nat}{v:Value}{xs:List Value}(h:w.ownsRow B e size v n xs)(hb:Below w.heap.size w w'):w'.ownsRow B e size v n xs:=by
 refine⟨h.1,?_⟩
 rcases h.2 with hz|⟨g,cap,cur,hv,hg,hh,r⟩
 ·exact .inl hz
 ·exact .inr ⟨g,cap,cur,hv,hg,blk_old hh hb,r⟩
theorem blk_set {w:World}{b:Nat}(i:Nat){cs:Array Value}{T:TypeId}{fr:Nat×Nat}(h:w.heap[b]? =some (.cells cs T fr))(v:Value):(w.setCell ⟨b,i,none⟩ v).heap[b]? =some (.cells (cs.setIfInBounds i v) T fr):=by
 rw[setCell_eq_setRow w b i cs T fr v h]
 exact setRow_heap w b _ _ T _ h
theorem ownsRow_set {w:World}{B:Nat}{e:TypeId}{size n:Nat}{v:Value}{xs:List Value}(h:w.ownsRow B e size v n xs)(a:Addr)(u:Value)(ha:a.block<B):(w.setCell a u).ownsRow B e size v n xs:=by
 refine⟨h.1,?_⟩
 rcases h.2 with hz|⟨g,cap,cur,hv,hg,hh,r⟩
 ·exact .inl hz
 ·exact .inr ⟨g,cap,cur,hv,hg,by rw[Below.heap_setCell _ _ _ _ (by omega)];exact hh,r⟩
theorem own_alloc_drew {w:World}{B:Nat}{e:TypeId}{size n:Nat}{v:Value}{xs:List Value}(h:w.ownsRow B e size v n xs)(o:Obj):(w.alloc o).drew.ownsRow B e size v n xs:=
 ownsRow_below h (((Below.refl _ _).alloc (Nat.le_refl _) o).drew)
theorem extract_eq (p:ByteArray)(a l:Nat):p.extract a (a+l)=⟨((p.data.toList.drop a).take l).toArray⟩:=by
 apply ByteArray.ext
 apply Array.ext'
 simp
def OwnCells (B:Nat)(w:World)(A:Option Addr)(c:Nat)(rs:List ByteArray):Prop:=
 0<rs.length→∃ b,A=some ⟨b,0,none⟩∧B≤b∧rs.length≤c∧b<w.heap.size∧∀ j (hj:j<rs.length),w.cell? ⟨b,j,none⟩=some (.string rs[j])
theorem OwnCells.cells {B:Nat}{w:World}{A:Option Addr}{c:Nat}{rs:List ByteArray}(h:OwnCells B w A c rs):Cells w A c rs:=fun h0=>by
 obtain⟨b,hA,hB,hc,hlt,hcell⟩:=h h0
 exact⟨b,0,hA,hc,hlt,fun j hj=>by rw[Nat.zero_add];exact hcell j hj⟩
theorem OwnCells.set {B:Nat}{w:World}{A:Option Addr}{c:Nat}{rs:List ByteArray}(h:OwnCells B w A c rs)(a:Addr)(ha:a.block<B)(u:Value):OwnCells B (w.setCell a u) A c rs:=fun h0=>by
 obtain⟨b,hA,hB,hc,hlt,hcell⟩:=h h0
 refine⟨b,hA,hB,hc,by simpa using hlt,fun j hj=>?_⟩
 rw[← hcell j hj]
 exact World.cell?_of_block (Below.heap_setCell _ _ _ _ (by simp;omega))
theorem OwnCells.mono {B B':Nat}{w:World}{A:Option Addr}{c:Nat}{rs:List ByteArray}(h:OwnCells B w A c rs)(hB:B'≤B):OwnCells B' w A c rs:=fun h0=>by
 obtain⟨b,hA,h1,h2⟩:=h h0
 exact⟨b,hA,by omega,h2⟩
theorem OwnCells.below {B:Nat}{w w':World}{A:Option Addr}{c:Nat}{rs:List ByteArray}(h:OwnCells B w A c rs)(hb:Below w.heap.size w w'):OwnCells B w' A c rs:=fun h0=>by
 obtain⟨b,hA,h1,h2,h3,h4⟩:=h h0
 refine⟨b,hA,h1,h2,Nat.lt_of_lt_of_le h3 hb.size,fun j hj=>?_⟩
 rw[hb.cell (p:=⟨b,j,none⟩) h3];exact h4 j hj
theorem own_cells {w:World}{B:Nat}{e:TypeId}{A:Option Addr}{k c:Nat}{rs:List ByteArray}(h:w.ownsRow B e 1 (.slice A k c) k (rs.map Value.string))(hl:rs.length=k):OwnCells B w A c rs:=fun h0=>by
 rcases h.2 with⟨h9,-⟩|⟨g,cap,cur,hv,hg,hh,h1,h2,h3,h4⟩
 ·simp at h9;omega
 ·have hv2:A=some ⟨g,0,none⟩∧c=cap:=by simpa using hv
  obtain⟨rfl,rfl⟩:=hv2
  refine⟨g,rfl,hg,by omega,(Array.getElem?_eq_some_iff.1 hh).1,fun j hj=>?_⟩
  have h5:cur.toList[j]? =some (.string rs[j]):=by
   have h6:(rs.map Value.string)[j]? =some (.string rs[j]):=by simp[hj]
   rw[← h4,List.getElem?_take_of_lt (by omega)]at h6
   exact h6
  rw[cell_of_blk hh]
  simpa using h5
abbrev leafV (x:Pg.Leaf)(A:Option Addr)(c:Nat):Value:=.agg #[x.lsn,x.kind,x.link,.slice A x.recs.length c]
abbrev zeroV:Value:=.agg #[(),(),(),"s"]
def Gives1 (r:Option Pg.Leaf)(w:World)(e:Ending)(w':World):Prop:=
 (match r with
   |some x=>∃ A c,e= .returned (.tuple #[leafV x A c,true])∧OwnCells w.heap.size w' A c x.recs
   |none=>e= .returned (.tuple #[zeroV,false]))∧Below w.heap.size w w'
theorem read_any (p:ByteArray)(_hm:p.size≤140737488355328)(w:World):
 Calls Tryz.prog 152 #[p] w (Gives1 (Pg.rd p.data.toList) w):=by
 by_cases h512:p.size=512
 ·have HL:=Hq (show p.data.toList.length=512 by have h9:p.data.toList.length=p.size:=(by simp);omega)
  obtain⟨lsn,hlsn⟩:=ex (Oct.getN p.data.toList 4 6)
  obtain⟨kind,hkind⟩:=ex (Oct.getN p.data.toList 10 1)
  obtain⟨link,hlink⟩:=ex (Oct.getN p.data.toList 12 3)
  obtain⟨n,hn⟩:=ex (Oct.getN p.data.toList 15 2)
  have HN1:=Hq (fun W=>num_any p 4 6 (by omega) (by omega) (by omega) (by omega) (by omega) W)
  have HN2:=Hq (fun W=>num_any p 10 1 (by omega) (by omega) (by omega) (by omega) (by omega) W)
  have HN3:=Hq (fun W=>num_any p 12 3 (by omega) (by omega) (by omega) (by omega) (by omega) W)
  have HN4:=Hq (fun W=>num_any p 15 2 (by omega) (by omega) (by omega) (by omega) (by omega) W)
  rw[show((4:Int).toNat)=4 from rfl,show((6:Int).toNat)=6 from rfl,← hlsn]at HN1
  rw[show((10:Int).toNat)=10 from rfl,show((1:Int).toNat)=1 from rfl,← hkind]at HN2
  rw[show((12:Int).toNat)=12 from rfl,show((3:Int).toNat)=3 from rfl,← hlink]at HN3
  rw[show((15:Int).toNat)=15 from rfl,show((2:Int).toNat)=2 from rfl,← hn]at HN4
  have HQ1:=Hq hlsn
  have HQ2:=Hq hkind
  have HQ3:=Hq hlink
  have HQ4:=Hq hn
  clear hlsn hkind hlink hn
  by_cases hbad:4<kind∨123<n
  ·have HR:=Hq (show Pg.rd p.data.toList=none by rw[Pg.rd,if_pos (by rw[← HQ2.out,← HQ4.out];exact .inr hbad)])
   have hb1:4<kind∨(kind≤4∧123<n):=by omega
   clear hbad
   rcases hb1 with h1|⟨h1,h2⟩
   all_goals
    go_enter Tryz.func152,Tryz.ntmps152
    go_wp2_with (first|(go_at_call 194;(with_reducible refine(HN1.out _).mono ?_);rintro e w1 ⟨rfl,hb1⟩)|(go_at_call 194;(with_reducible refine(HN2.out _).mono ?_);rintro e w2 ⟨rfl,hb2⟩)|(go_at_call 194;(with_reducible refine(HN3.out _).mono ?_);rintro e w3 ⟨rfl,hb3⟩)|(go_at_call 194;(with_reducible refine(HN4.out _).mono ?_);rintro e w4 ⟨rfl,hb4⟩;obtain⟨a0,a1,a2,a3,-⟩:=blk4 (blk_new hb4);obtain⟨c0,c1,c2,c3,f0,f1,f2,f3⟩:=blk4 (blk_past (blk_old (blk_old (blk_new hb1) hb2) hb3) hb4)))
    refine bodyPost_ret (v:=.tuple #[zeroV,false]) (by simp[results,Tryz.results152,go_sem,c0,c1,c2,c3]) rfl ?_
    unfold Gives1
    rw[HR.out]
    have hbw:Below w.heap.size w w4:=andThen (andThen (andThen (below_past hb1) hb2) hb3) (below_past hb4)
    refine⟨rfl,?_⟩
    repeat (first|exact hbw|refine Below.setCell ?_ (by simp) _)
  ·obtain⟨hk4,hn123⟩:kind≤4∧n≤123:=by omega
   have HRD:=Hq (show Pg.rd p.data.toList=(Pg.recsOf p.data.toList n).map fun rs=>⟨lsn,kind,link,rs⟩ by
    rw[Pg.rd,if_neg (by rw[← HQ2.out,← HQ4.out];have:=HL.out;omega),← HQ1.out,← HQ2.out,← HQ3.out,← HQ4.out])
   clear hbad
   go_enter Tryz.func152,Tryz.ntmps152
   go_upto_block 0 with(first|(go_at_call 194;(with_reducible refine(HN1.out _).mono ?_);rintro e w1 ⟨rfl,hb1⟩)|(go_at_call 194;(with_reducible refine(HN2.out _).mono ?_);rintro e w2 ⟨rfl,hb2⟩)|(go_at_call 194;(with_reducible refine(HN3.out _).mono ?_);rintro e w3 ⟨rfl,hb3⟩)|(go_at_call 194;(with_reducible refine(HN4.out _).mono ?_);rintro e w4 ⟨rfl,hb4⟩;obtain⟨a0,a1,a2,a3,-⟩:=blk4 (blk_new hb4)))
   have hX:=blk_new hb4
   have hZ:=blk_past (blk_old (blk_old (blk_new hb1) hb2) hb3) hb4
   have hbw:Below w.heap.size w w4:=andThen (andThen (andThen (below_past hb1) hb2) hb3) (below_past hb4)
   have hlt:w.heap.size<w3.heap.size:=by
    have:=hb1.size;have:=hb2.size;have:=hb3.size;simp at*;omega
   have hlt4:w3.heap.size<w4.heap.size:=by have:=hb4.size;simp at this;omega
   clear hb1 hb2 hb3 hb4 a0 a1 a2 a3
   generalize w3.heap.size=X at hX hlt hlt4 ⊢
   have HX:=Hq hX
   have HZ:=Hq hZ
   have HW:=Hq hbw
   clear hX hZ hbw
   go_wp2_with fail
   go_loopw [31] (fun i wr=>∃ (k:Nat) (rs:List ByteArray) (A:Option Addr) (c:Nat),k≤n∧i= .int .i64 k∧Pg.recsOf p.data.toList k=some rs∧wr.heap[X]? =some (.cells #[lsn,kind,link,.slice A k c] 151 (0,0))∧wr.heap[w.heap.size]? =some (.cells #[(),(),(),"s"] 151 (0,0))∧wr.ownsRow w4.heap.size 9 1 (.slice A k c) k (rs.map Value.string)∧Below w.heap.size w wr∧w4.heap.size≤wr.heap.size) (fun i _=>n-(intOf i).toNat)
   case atStart=>exact⟨0,[],none,0,Nat.zero_le _,rfl,rfl,HX.out,HZ.out,⟨rfl,.inl ⟨rfl,rfl⟩⟩,HW.out,Nat.le_refl _⟩
   case round=>
    obtain⟨k,rs,A,c,hk,rfl,hrs,hX,hZ,hown,hbw,hge⟩:=hrel
    have hrl:=Pg.recsOf_length _ _ _ hrs
    have HRS:=Hq hrs
    have HX2:=Hq hX
    have HZ2:=Hq hZ
    have HO:=Hq hown
    have HW2:=Hq hbw
    have HRL:=Hq hrl
    clear hrs hX hZ hown hbw hrl
    by_cases hkn:k<n
    ·obtain⟨at_,hat⟩:=ex (Oct.getN p.data.toList (19+4*k) 2)
     obtain⟨long,hlong⟩:=ex (Oct.getN p.data.toList (21+4*k) 2)
     have hal:at_<65536:=by
      have h1:=Oct.getL_lt ((p.data.toList.drop (19+4*k)).take 2)
      have h2:256^((p.data.toList.drop (19+4*k)).take 2).length≤256^2:=Nat.pow_le_pow_right (by omega) (by rw[List.length_take];omega)
      rw[hat];unfold Oct.getN;omega
     have hll:long<65536:=by
      have h1:=Oct.getL_lt ((p.data.toList.drop (21+4*k)).take 2)
      have h2:256^((p.data.toList.drop (21+4*k)).take 2).length≤256^2:=Nat.pow_le_pow_right (by omega) (by rw[List.length_take];omega)
      rw[hlong];unfold Oct.getN;omega
     have HA:=Hq (fun W=>num_any p (19+4*(k:Int)) 2 (by omega) (by omega) (by omega) (by omega) (by omega) W)
     have HB:=Hq (fun W=>num_any p (19+4*(k:Int)+2) 2 (by omega) (by omega) (by omega) (by omega) (by omega) W)
     rw[show(19+4*(k:Int)).toNat=19+4*k by omega,show((2:Int).toNat)=2 from rfl,← hat]at HA
     rw[show(19+4*(k:Int)+2).toNat=21+4*k by omega,show((2:Int).toNat)=2 from rfl,← hlong]at HB
     have HAT:=Hq hat
     have HLO:=Hq hlong
     clear hat hlong
     by_cases hbad:400<long∨512<at_+long
     ·have HN:=Hq (show Pg.rd p.data.toList=none by
       have h1:Pg.recsOf p.data.toList (k+1)=none:=by
        simp only[Pg.recsOf,HRS.out]
        rw[if_pos (by rw[← HAT.out,← HLO.out];exact hbad)]
       have h2:=Pg.recsOf_none _ h1 (n-(k+1))
       rw[show k+1+(n-(k+1))=n by omega]at h2
       rw[HRD.out,h2];rfl)
      have hb1:400<long∨(long≤400∧(512:Int)-(long:Int)<(at_:Int)):=by omega
      clear hbad
      rcases hb1 with h1|⟨h1,h2⟩
      all_goals
       go_wp2_with (first|(go_at_call 194;(with_reducible refine(HA.out _).mono ?_);rintro e w5 ⟨rfl,hb5⟩)|(go_at_call 194;(with_reducible refine(HB.out _).mono ?_);rintro e w6 ⟨rfl,hb6⟩;obtain⟨c0,c1,c2,c3,f0,f1,f2,f3⟩:=blk4 (blk_old (blk_old HZ2.out hb5) hb6)))
       refine bodyPost_ret (v:=.tuple #[zeroV,false]) (by simp[results,Tryz.results152,go_sem,c0,c1,c2,c3]) rfl ?_
       unfold Gives1
       rw[HN.out]
       have hbw6:Below w.heap.size w w6:=andThen (andThen HW2.out hb5) hb6
       refine⟨rfl,?_⟩
       repeat (first|exact hbw6|refine Below.setCell ?_ (by simp) _)
     ·obtain⟨hl4,hal5⟩:long≤400∧at_+long≤512:=by omega
      clear hbad
      go_upto_region 13 with(first|(go_at_call 194;(with_reducible refine(HA.out _).mono ?_);rintro e w5 ⟨rfl,hb5⟩)|(go_at_call 194;(with_reducible refine(HB.out _).mono ?_);rintro e w6 ⟨rfl,hb6⟩))
      obtain⟨i0,hi0,hz0,hz1,hz2⟩:=info_parts pinfo_string
      have hb56:Below wr.heap.size wr w6:=andThen hb5 hb6
      have hX6:=blk_old HX2.out hb56
      have hZ6:=blk_old HZ2.out hb56
      have hown6:w6.ownsRow w4.heap.size 9 1 (.slice A k c) k (rs.map Value.string):=ownsRow_below HO.out hb56
      have hW6:Below w.heap.size w w6:=andThen HW2.out hb56
      have hs6:=hb56.size
      obtain⟨x0,x1,x2,x3,g0,g1,g2,g3⟩:=blk4 hX6
      have hp1:(0:Int)≤(at_:Int):=by omega
      have hp2:(at_:Int)≤(at_:Int)+(long:Int):=by omega
      have hp3:(at_:Int)+(long:Int)≤512:=by omega
      have hp4:IntKind.i64.wrap ((at_:Int)+(long:Int))=(at_:Int)+(long:Int):=IntWalk.i64_in _ (by omega)
      have hp5:((at_:Int)+(long:Int)).toNat=at_+long:=by omega
      have hp6:0≤(at_:Int)+(long:Int):=by omega
      have hp7:at_≤at_+long:=by omega
      have hp8:at_+long≤p.size:=by omega
      clear hb5 hb6 hb56
      have HF:=Hq (show ∀ w7:World,((w6.alloc (.cells #[.string (p.extract at_ (at_+long))] 9)).drew).grownBy w7 (Value.slice A k c).ownBlock→∀ (b:Nat) (o:Obj),b<w4.heap.size→w6.heap[b]? =some o→w7.heap[b]? =some o by
       intro w7 hg b o hb ho
       rw[hg.block b (by simp;omega) (fun e9=>absurd (hown6.lt b e9.symm).1 (by omega))]
       exact(Below.heap_alloc w6 _ b (by omega)).trans ho)
      obtain⟨-,-,-,z3,-⟩:=blk4 ((Below.heap_alloc w6 (.cells #[.string (p.extract at_ (at_+long))] 9) X (by omega)).trans hX6)
      go_region_law? (refine step_append_lies _ (by rfl) _ _ _ (by rfl) w4.heap.size 9 i0 (.string ⟨#[]⟩) 1 16 Tryz.underlying26 hi0 hz0 hz1 hz2 rfl (by omega) (.slice A k c) k (rs.map Value.string) (by rfl) (own_alloc_drew hown6 _) ⟨w6.heap.size,0,none⟩ 1 1 [.string (p.extract at_ (at_+long))] (by rfl) (by rfl) (World.news_of_block (cs:=#[.string (p.extract at_ (at_+long))]) (t:=9) (fr:=(0,0)) (heap_alloc_new w6 _)) (by simp[Value.oneCell']) (by omega) (by simp[maxLen];omega) (by omega) (by simp;omega) (w6.heap.size+1) (by simp) ?_;intro gg cap w7 hown7 hgrow hat7 hlt7;obtain⟨y0,y1,y2,y3,k0,k1,k2,k3⟩:=blk4 (HF.out w7 hgrow X _ hlt4 hX6))
      all_goals
       have hX7:=HF.out w7 hgrow X _ hlt4 hX6
       have hZ7:=HF.out w7 hgrow w.heap.size _ (by omega) hZ6
       have hb7:Below w.heap.size w w7:=((hW6.alloc (by omega) _).drew).grown hgrow (by simp;omega) (fun k9 e9=>by have:=(hown6.lt k9 e9).1;omega)
       have hs7:w6.heap.size+1≤w7.heap.size:=by have:=hgrow.size;simp at this;omega
       go_wp2_with fail
       go_roundw
       case rel=>
        refine⟨k+1,rs++[p.extract at_ (at_+long)],some ⟨gg,0,none⟩,cap,by omega,by go_num,?_,?_,?_,?_,?_,?_⟩
        ·simp only[Pg.recsOf,HRS.out]
         rw[if_neg (by rw[← HAT.out,← HLO.out];omega),← HAT.out,← HLO.out]
         rw[extract_eq]
        ·have:=blk_set 3 hX7 (.slice (some ⟨gg,0,none⟩) (k+1) cap)
         simpa using this
        ·rw[Below.heap_setCell _ _ _ _ (by simp;omega)];exact hZ7
        ·have:=ownsRow_set hown7 ⟨X,3,none⟩ (.slice (some ⟨gg,0,none⟩) (k+1) cap) hlt4
         simpa using this
        ·exact hb7.setCell (by simp;omega) _
        ·simp;omega
       case measure=>simp[intOf];omega
    ·obtain rfl:k=n:=by omega
     have hX:=HX2.out
     obtain⟨x0,x1,x2,x3,-⟩:=blk4 HX2.out
     obtain⟨c0,c1,c2,c3,f0,f1,f2,f3⟩:=blk4 HZ2.out
     have hne:X≠w.heap.size:=by omega
     go_wp2_with fail
     refine bodyPost_ret (v:=.tuple #[leafV ⟨lsn,kind,link,rs⟩ A c,true]) (by simp[results,Tryz.results152,go_sem,c0,c1,c2,c3];exact HRL.out.symm) rfl ?_
     unfold Gives1
     rw[HRD.out,HRS.out]
     have hlen:=HRL.out
     have hcl:=own_cells HO.out hlen
     refine⟨⟨A,c,by simp[leafV,hlen],?_⟩,?_⟩
     ·refine OwnCells.mono (B:=w4.heap.size) ?_ (by omega)
      repeat (first|exact hcl|refine OwnCells.set ?_ _ (by simp;omega) _)
     ·repeat (first|exact HW2.out|refine Below.setCell ?_ (by simp) _)
 ·have hne:((p.size:Int)==512)=false:=by simp;omega
  have HR:=Hq (show Pg.rd p.data.toList=none by
   rw[Pg.rd,if_pos (.inl (by have h9:p.data.toList.length=p.size:=(by simp);omega))])
  clear h512
  go_enter Tryz.func152,Tryz.ntmps152
  go_wp2_with fail
  refine bodyPost_ret (v:=.tuple #[zeroV,false]) (by simp[results,Tryz.results152,go_sem]) rfl ?_
  unfold Gives1
  rw[HR.out]
  exact⟨rfl,(Below.refl _ _).alloc (Nat.le_refl _) _⟩
abbrev Held (X:Nat)(x:Pg.Leaf)(A:Option Addr)(c:Nat)(w0 u:World):Prop:=
 u.cell? ⟨X,0,none⟩=some (.int .i64 x.lsn)∧u.cell? ⟨X,1,none⟩=some (.int .i64 x.kind)∧u.cell? ⟨X,2,none⟩=some (.int .i64 x.link)∧u.cell? ⟨X,3,none⟩=some (.slice A x.recs.length c)∧Cells u A c x.recs∧X<u.heap.size∧Below w0.heap.size w0 u
theorem Held.step {X:Nat}{x:Pg.Leaf}{A:Option Addr}{c:Nat}{w0 u v:World}(h:Held X x A c w0 u)(hb:Below u.heap.size u v):Held X x A c w0 v:=by
 obtain⟨c0,c1,c2,c3,h4,h5,h6⟩:=h
 have:=hb.size
 refine⟨?_,?_,?_,?_,h4.below hb,by omega,andThen h6 hb⟩
 ·rw[hb.cell (p:=⟨X,0,none⟩) h5];exact c0
 ·rw[hb.cell (p:=⟨X,1,none⟩) h5];exact c1
 ·rw[hb.cell (p:=⟨X,2,none⟩) h5];exact c2
 ·rw[hb.cell (p:=⟨X,3,none⟩) h5];exact c3
theorem Held.drew {X:Nat}{x:Pg.Leaf}{A:Option Addr}{c:Nat}{w0 u:World}(h:Held X x A c w0 u):Held X x A c w0 u.drew:=h.step (Below.refl _ _).drew
theorem below_drewN (w:World)(n:Nat):Below w.heap.size w (w.drewN n):=⟨rfl,rfl,rfl,Nat.le_refl _,fun _ _=>rfl⟩
theorem put_keeps (n size:Int)(h0:0≤size)(h8:size≤8)(X:Nat)(x:Pg.Leaf)(A:Option Addr)(c:Nat)(w0 u:World)(h:Held X x A c w0 u):
 Calls Tryz.prog 153 #[n,size] u fun e w'=>e= .returned (.string (Oct.putB n size))∧Held X x A c w0 w':=
 (put_any n size h0 h8 u).mono fun _ _ ⟨h1,h2⟩=>⟨h1,h.step h2⟩
theorem made_keeps (x:Pg.Leaf)(A:Option Addr)(c:Nat)(hf:Pg.Fine x)(X:Nat)(w0 u:World)(h:Held X x A c w0 u):
 Calls Tryz.prog 128 #[.agg #[x.lsn,x.kind,x.link,.slice A x.recs.length c]] u fun e w'=>e= .returned (.string ⟨(Pg.layL x).toArray⟩)∧Held X x A c w0 w':=
 (made_any x A c hf.small (by have:=hf.sizeN;omega) u h.2.2.2.2.1).mono fun _ _ ⟨h1,h2⟩=>⟨h1,h.step h2⟩
theorem take_any (p:ByteArray)(hm:p.size≤140737488355328)(w:World):
 Calls Tryz.prog 109 #[p] w (Gives1 (Pg.right p.data.toList) w):=by
 have HR:=Hq (fun W=>read_any p hm W)
 rcases hr:Pg.rd p.data.toList with _|x
 ·rw[hr]at HR
  rw[Pg.right_none_of hr]
  go_enter Tryz.func109,Tryz.ntmps109
  go_upto_region 2 with(first|(go_at_call 152;(with_reducible refine(HR.out _).mono ?_);rintro e w1 ⟨rfl,hb1⟩))
  have hlt:w.heap.size<w1.heap.size:=by have:=hb1.size;simp at this;omega
  have hbw:=below_past hb1
  have hbx:=blk_new hb1
  clear hb1
  have HH:=Hq (show Held w1.heap.size Pg.zero none 0 (w1.alloc (.cells #[(),(),(),"s"] 151)) (w1.alloc (.cells #[(),(),(),"s"] 151)) by
   obtain⟨a0,a1,a2,a3,-⟩:=blk4 (heap_alloc_new w1 (.cells #[(),(),(),"s"] 151))
   exact⟨a0,a1,a2,a3,fun h0=>by simp[Pg.zero]at h0,by simp,Below.refl _ _⟩)
  go_cut [21] (fun s we=>s= .bool true∧Held w1.heap.size Pg.zero none 0 (w1.alloc (.cells #[(),(),(),"s"] 151)) we)
  case first=>
   go_quiet (fail)
   go_wp2_with fail
   go_meet
   case rel=>exact⟨rfl,HH.out.step (below_drewN _ _)⟩
  case rest=>
   obtain⟨rfl,hS⟩:=hcut
   have hbb:=andThen (below_past (hS.2.2.2.2.2.2)) (Below.refl _ _)
   obtain⟨c0,c1,c2,c3,f0,f1,f2,f3⟩:=blk4 (blk_old hbx hbb)
   go_wp2_with fail
   refine bodyPost_ret (v:=.tuple #[zeroV,false]) (by simp[results,Tryz.results109,go_sem,c0,c1,c2,c3]) rfl ?_
   have hbw6:=andThen hbw hbb
   refine⟨rfl,?_⟩
   repeat (first|exact hbw6|refine Below.setCell ?_ (by simp) _)
 ·rw[hr]at HR
  obtain⟨hf,h512⟩:=Pg.rd_fine hr
  have hps:p.size=512:=by have h9:p.data.toList.length=p.size:=(by simp);omega
  rw[Pg.right_of hr]
  have HF:=Hq hf
  clear hr hf h512
  have hcmp:(Pg.layL x==(Oct.putB 0 4++p.extract 4 512).toList)=decide (Pg.layL x=Oct.putL 0 4++p.data.toList.drop 4):=by
   have h1:(Oct.putB 0 4++p.extract 4 512).data.toList=Oct.putL 0 4++p.data.toList.drop 4:=by
    rw[ByteArray.data_append,Array.toList_append,show(Oct.putB 0 4).data.toList=Oct.putL 0 4 from Oct.putB_list 0 4 (by omega)]
    congr 1
    rw[show 512=4+508 from rfl,extract_eq]
    exact List.take_of_length_le (by have h9:p.data.toList.length=p.size:=(by simp);rw[List.length_drop];omega)
   rw[ByteArray.toList_eq,h1]
   exact Bool.beq_eq_decide_eq _ _
  generalize decide (Pg.layL x=Oct.putL 0 4++p.data.toList.drop 4)=b at hcmp ⊢
  have HCM:=Hq hcmp
  have hz1:(Oct.putB 0 4).size=4:=Oct.putB_size 0 4 (by omega)
  have hz2:(p.extract 4 p.size).size=508:=by simp;omega
  have hz3:4≤p.size:=by omega
  clear hcmp
  go_enter Tryz.func109,Tryz.ntmps109
  go_upto_region 2 with(first|(go_at_call 152;(with_reducible refine(HR.out _).mono ?_);rintro e w1 ⟨⟨A,c,rfl,hcl⟩,hb1⟩))
  have hlt:w.heap.size<w1.heap.size:=by have:=hb1.size;simp at this;omega
  have hbw:=below_past hb1
  have hbx:=blk_new hb1
  clear hb1
  have HH:=Hq (show Held w1.heap.size x A c (w1.alloc (.cells #[x.lsn,x.kind,x.link,.slice A x.recs.length c] 151)) (w1.alloc (.cells #[x.lsn,x.kind,x.link,.slice A x.recs.length c] 151)) by
   obtain⟨a0,a1,a2,a3,-⟩:=blk4 (heap_alloc_new w1 (.cells #[x.lsn,x.kind,x.link,.slice A x.recs.length c] 151))
   exact⟨a0,a1,a2,a3,(hcl.below ((Below.refl _ _).alloc (Nat.le_refl _) _)).cells,by simp,Below.refl _ _⟩)
  go_cut [21] (fun s we=>s= .bool (!b)∧Held w1.heap.size x A c (w1.alloc (.cells #[x.lsn,x.kind,x.link,.slice A x.recs.length c] 151)) we)
  case first=>
   go_region_held3 (fun we=>Held w1.heap.size x A c (w1.alloc (.cells #[x.lsn,x.kind,x.link,.slice A x.recs.length c] 151)) we) (first|assumption|exact HH.out.drew) (first|(go_at_call 128;refine(made_keeps x A c HF.out _ _ _ (by assumption)).mono ?_;rintro e w1 ⟨rfl,hS⟩)|(go_at_call 153;refine(put_keeps _ _ (by omega) (by omega) _ _ _ _ _ _ (by assumption)).mono ?_;rintro e w1 ⟨rfl,hS⟩))
   go_wp2_with fail
   go_meet
   case rel=>exact⟨congrArg (fun z=>Value.bool (!z)) HCM.out,hS⟩
  case rest=>
   obtain⟨rfl,hS⟩:=hcut
   have hbb:=below_past (hS.2.2.2.2.2.2)
   obtain⟨c0,c1,c2,c3,f0,f1,f2,f3⟩:=blk4 (blk_old hbx hbb)
   have hbw6:=andThen hbw hbb
   obtain⟨x0,x1,x2,x3,hcl6,-,-⟩:=hS
   have hne:w1.heap.size≠w.heap.size:=by omega
   cases b
   ·go_wp2_with fail
    refine bodyPost_ret (v:=.tuple #[zeroV,false]) (by simp[results,Tryz.results109,go_sem,c0,c1,c2,c3]) rfl ?_
    refine⟨rfl,?_⟩
    repeat (first|exact hbw6|refine Below.setCell ?_ (by simp) _)
   ·go_wp2_with fail
    refine bodyPost_ret (v:=.tuple #[leafV x A c,true]) (by simp[results,Tryz.results109,go_sem,c0,c1,c2,c3]) rfl ?_
    refine⟨⟨A,c,rfl,?_⟩,?_⟩
    ·refine OwnCells.mono (B:=w.heap.size+1) ?_ (by omega)
     repeat (first|exact(hcl.below hbb).mono (by simp)|refine OwnCells.set ?_ _ (by simp) _)
    ·repeat (first|exact hbw6|refine Below.setCell ?_ (by simp) _)
def GivesR (r:Option Pg.Leaf)(w:World)(e:Ending)(w':World):Prop:=
 (match r with
   |some x=>∃ A c,e= .returned (.tuple #[leafV x A c,true])∧OwnCells w.heap.size w' A c x.recs
   |none=>∃ (x:Pg.Leaf) (A:Option Addr) (c:Nat),e= .returned (.tuple #[leafV x A c,false]))∧Below w.heap.size w w'
theorem rparts_any (p:ByteArray)(_hm:p.size≤140737488355328)(w:World):
 Calls Tryz.prog 43 #[p] w (GivesR (Pg.right p.data.toList) w):=by
 by_cases h512:p.size=512
 ·have HL:=Hq (show p.data.toList.length=512 by have h9:p.data.toList.length=p.size:=(by simp);omega)
  obtain⟨lsn,hlsn⟩:=ex (Oct.getN p.data.toList 4 6)
  obtain⟨kind,hkind⟩:=ex (Oct.getN p.data.toList 10 1)
  obtain⟨link,hlink⟩:=ex (Oct.getN p.data.toList 12 3)
  obtain⟨n,hn⟩:=ex (Oct.getN p.data.toList 15 2)
  have HN1:=Hq (fun W=>prnum_any p 4 6 (by omega) (by omega) (by omega) (by omega) (by omega) W)
  have HN2:=Hq (fun W=>prnum_any p 10 1 (by omega) (by omega) (by omega) (by omega) (by omega) W)
  have HN3:=Hq (fun W=>prnum_any p 12 3 (by omega) (by omega) (by omega) (by omega) (by omega) W)
  have HN4:=Hq (fun W=>prnum_any p 15 2 (by omega) (by omega) (by omega) (by omega) (by omega) W)
  have hn16:n<65536:=by have:=Pg.getN_pow p.data.toList 15 2;omega
  rw[show((4:Int).toNat)=4 from rfl,show((6:Int).toNat)=6 from rfl,← hlsn]at HN1
  rw[show((10:Int).toNat)=10 from rfl,show((1:Int).toNat)=1 from rfl,← hkind]at HN2
  rw[show((12:Int).toNat)=12 from rfl,show((3:Int).toNat)=3 from rfl,← hlink]at HN3
  rw[show((15:Int).toNat)=15 from rfl,show((2:Int).toNat)=2 from rfl,← hn]at HN4
  have HQ1:=Hq hlsn
  have HQ2:=Hq hkind
  have HQ3:=Hq hlink
  have HQ4:=Hq hn
  clear hlsn hkind hlink hn
  by_cases hbad:4<kind∨123<n
  ·have HR:=Hq (show Pg.right p.data.toList=none from Pg.right_none_of (by rw[Pg.rd,if_pos (by rw[← HQ2.out,← HQ4.out];exact .inr hbad)]))
   have hb1:4<kind∨(kind≤4∧512<19+4*(n:Int)):=by omega
   clear hbad
   rcases hb1 with h1|⟨h1,h2⟩
   all_goals
    go_enter Tryz.func43,Tryz.ntmps43
    go_wp2_with (first|(go_at_call 101;(with_reducible refine(HN1.out _).mono ?_);rintro e w1 ⟨rfl,rfl⟩)|(go_at_call 101;(with_reducible refine(HN2.out _).mono ?_);rintro e w2 ⟨rfl,rfl⟩)|(go_at_call 101;(with_reducible refine(HN3.out _).mono ?_);rintro e w3 ⟨rfl,rfl⟩)|(go_at_call 101;(with_reducible refine(HN4.out _).mono ?_);rintro e w4 ⟨rfl,rfl⟩))
    refine bodyPost_ret (v:=.tuple #[zeroV,false]) (by simp[results,Tryz.results43,go_sem]) rfl ?_
    unfold GivesR
    rw[HR.out]
    refine⟨⟨Pg.zero,none,0,rfl⟩,?_⟩
    repeat (first|exact Below.refl _ _|refine Below.setCell ?_ (by simp) _|refine Below.alloc ?_ (by simp) _)
  ·obtain⟨hk4,hn123⟩:kind≤4∧n≤123:=by omega
   have HRD:=Hq (show Pg.rd p.data.toList=(Pg.recsOf p.data.toList n).map fun rs=>⟨lsn,kind,link,rs⟩ by
    rw[Pg.rd,if_neg (by rw[← HQ2.out,← HQ4.out];have:=HL.out;omega),← HQ1.out,← HQ2.out,← HQ3.out,← HQ4.out])
   clear hbad
   have hn512:19+4*(n:Int)≤512:=by omega
   go_enter Tryz.func43,Tryz.ntmps43
   go_upto_block 0 with(first|(go_at_call 101;(with_reducible refine(HN1.out _).mono ?_);rintro e w1 ⟨rfl,rfl⟩)|(go_at_call 101;(with_reducible refine(HN2.out _).mono ?_);rintro e w2 ⟨rfl,rfl⟩)|(go_at_call 101;(with_reducible refine(HN3.out _).mono ?_);rintro e w3 ⟨rfl,rfl⟩)|(go_at_call 101;(with_reducible refine(HN4.out _).mono ?_);rintro e w4 ⟨rfl,rfl⟩))
   have hX:=heap_alloc_new (w.alloc (.cells #[(),(),(),"s"] 95)) (.cells #[lsn,kind,link,"s"] 95)
   have hZ:=(Below.heap_alloc (w.alloc (.cells #[(),(),(),"s"] 95)) (.cells #[lsn,kind,link,"s"] 95) w.heap.size (by simp)).trans (heap_alloc_new w _)
   rw[show(w.alloc (.cells #[(),(),(),"s"] 95)).heap.size=w.heap.size+1 by simp]at hX
   have hbw:Below w.heap.size w ((w.alloc (.cells #[(),(),(),"s"] 95)).alloc (.cells #[lsn,kind,link,"s"] 95)):=((Below.refl _ _).alloc (Nat.le_refl _) _).alloc (by simp) _
   generalize hXe:w.heap.size+1=X at hX ⊢
   have HX:=Hq hX
   have HZ:=Hq hZ
   have HW:=Hq hbw
   clear hX hZ hbw
   go_wp2_with fail
   go_loopw [6] (fun i wr=>∃ (k:Nat) (rs:List ByteArray) (A:Option Addr) (c:Nat),k≤n∧i= .int .i64 k∧Pg.recsOf p.data.toList k=some rs∧wr.heap[X]? =some (.cells #[lsn,kind,link,.slice A k c] 95 (0,0))∧wr.heap[w.heap.size]? =some (.cells #[(),(),(),"s"] 95 (0,0))∧wr.ownsRow (w.heap.size+2) 9 1 (.slice A k c) k (rs.map Value.string)∧Below w.heap.size w wr∧w.heap.size+2≤wr.heap.size) (fun i _=>n-(intOf i).toNat)
   case atStart=>exact⟨0,[],none,0,Nat.zero_le _,rfl,rfl,HX.out,HZ.out,⟨rfl,.inl ⟨rfl,rfl⟩⟩,HW.out,by simp⟩
   case round=>
    obtain⟨k,rs,A,c,hk,rfl,hrs,hX,hZ,hown,hbw,hge⟩:=hrel
    have hrl:=Pg.recsOf_length _ _ _ hrs
    have HRS:=Hq hrs
    have HX2:=Hq hX
    have HZ2:=Hq hZ
    have HO:=Hq hown
    have HW2:=Hq hbw
    have HRL:=Hq hrl
    clear hrs hX hZ hown hbw hrl
    by_cases hkn:k<n
    ·obtain⟨at_,hat⟩:=ex (Oct.getN p.data.toList (19+4*k) 2)
     obtain⟨long,hlong⟩:=ex (Oct.getN p.data.toList (21+4*k) 2)
     have hal:at_<65536:=by
      have h1:=Oct.getL_lt ((p.data.toList.drop (19+4*k)).take 2)
      have h2:256^((p.data.toList.drop (19+4*k)).take 2).length≤256^2:=Nat.pow_le_pow_right (by omega) (by rw[List.length_take];omega)
      rw[hat];unfold Oct.getN;omega
     have hll:long<65536:=by
      have h1:=Oct.getL_lt ((p.data.toList.drop (21+4*k)).take 2)
      have h2:256^((p.data.toList.drop (21+4*k)).take 2).length≤256^2:=Nat.pow_le_pow_right (by omega) (by rw[List.length_take];omega)
      rw[hlong];unfold Oct.getN;omega
     have HA:=Hq (fun W=>prnum_any p (19+4*(k:Int)) 2 (by omega) (by omega) (by omega) (by omega) (by omega) W)
     have HB:=Hq (fun W=>prnum_any p (19+4*(k:Int)+2) 2 (by omega) (by omega) (by omega) (by omega) (by omega) W)
     rw[show(19+4*(k:Int)).toNat=19+4*k by omega,show((2:Int).toNat)=2 from rfl,← hat]at HA
     rw[show(19+4*(k:Int)+2).toNat=21+4*k by omega,show((2:Int).toNat)=2 from rfl,← hlong]at HB
     have HAT:=Hq hat
     have HLO:=Hq hlong
     clear hat hlong
     by_cases hbad:400<long∨512<at_+long
     ·have HN:=Hq (show Pg.right p.data.toList=none from Pg.right_none_of (by
       have h1:Pg.recsOf p.data.toList (k+1)=none:=by
        simp only[Pg.recsOf,HRS.out]
        rw[if_pos (by rw[← HAT.out,← HLO.out];exact hbad)]
       have h2:=Pg.recsOf_none _ h1 (n-(k+1))
       rw[show k+1+(n-(k+1))=n by omega]at h2
       rw[HRD.out,h2];rfl))
      have hb1:512<(at_:Int)+(long:Int)∨((at_:Int)+(long:Int)≤512∧400<long):=by omega
      clear hbad
      rcases hb1 with h1|⟨h1,h2⟩
      all_goals
       obtain⟨c0,c1,c2,c3,f0,f1,f2,f3⟩:=blk4 HZ2.out
       go_wp2_with (first|(go_at_call 101;(with_reducible refine(HA.out _).mono ?_);rintro e w5 ⟨rfl,rfl⟩)|(go_at_call 101;(with_reducible refine(HB.out _).mono ?_);rintro e wr ⟨rfl,rfl⟩))
       refine bodyPost_ret (v:=.tuple #[zeroV,false]) (by simp[results,Tryz.results43,go_sem,c0,c1,c2,c3]) rfl ?_
       unfold GivesR
       rw[HN.out]
       refine⟨⟨Pg.zero,none,0,rfl⟩,?_⟩
       repeat (first|exact HW2.out|refine Below.setCell ?_ (by simp) _)
     ·obtain⟨hl4,hal5⟩:long≤400∧at_+long≤512:=by omega
      clear hbad
      go_upto_region 13 with(first|(go_at_call 101;(with_reducible refine(HA.out _).mono ?_);rintro e w5 ⟨rfl,rfl⟩)|(go_at_call 101;(with_reducible refine(HB.out _).mono ?_);rintro e wr ⟨rfl,rfl⟩))
      obtain⟨i0,hi0,hz0,hz1,hz2⟩:=info_parts pinfo_string
      have hX6:=HX2.out
      have hZ6:=HZ2.out
      have hown6:wr.ownsRow (w.heap.size+2) 9 1 (.slice A k c) k (rs.map Value.string):=HO.out
      have hW6:Below w.heap.size w wr:=HW2.out
      obtain⟨x0,x1,x2,x3,g0,g1,g2,g3⟩:=blk4 hX6
      have hp1:(0:Int)≤(at_:Int):=by omega
      have hp2:(at_:Int)≤(at_:Int)+(long:Int):=by omega
      have hp3:(at_:Int)+(long:Int)≤512:=by omega
      have hp4:IntKind.i64.wrap ((at_:Int)+(long:Int))=(at_:Int)+(long:Int):=IntWalk.i64_in _ (by omega)
      have hp5:((at_:Int)+(long:Int)).toNat=at_+long:=by omega
      have hp6:0≤(at_:Int)+(long:Int):=by omega
      have hp7:at_≤at_+long:=by omega
      have hp8:at_+long≤p.size:=by omega
      have HF:=Hq (show ∀ w7:World,((wr.alloc (.cells #[.string (p.extract at_ (at_+long))] 9)).drew).grownBy w7 (Value.slice A k c).ownBlock→∀ (b:Nat) (o:Obj),b<(w.heap.size+2)→wr.heap[b]? =some o→w7.heap[b]? =some o by
       intro w7 hg b o hb ho
       rw[hg.block b (by simp;omega) (fun e9=>absurd (hown6.lt b e9.symm).1 (by omega))]
       exact(Below.heap_alloc wr _ b (by omega)).trans ho)
      obtain⟨-,-,-,z3,-⟩:=blk4 ((Below.heap_alloc wr (.cells #[.string (p.extract at_ (at_+long))] 9) X (by omega)).trans hX6)
      go_region_law? (refine step_append_lies _ (by rfl) _ _ _ (by rfl) (w.heap.size+2) 9 i0 (.string ⟨#[]⟩) 1 16 Tryz.underlying26 hi0 hz0 hz1 hz2 rfl (by omega) (.slice A k c) k (rs.map Value.string) (by rfl) (own_alloc_drew hown6 _) ⟨wr.heap.size,0,none⟩ 1 1 [.string (p.extract at_ (at_+long))] (by rfl) (by rfl) (World.news_of_block (cs:=#[.string (p.extract at_ (at_+long))]) (t:=9) (fr:=(0,0)) (heap_alloc_new wr _)) (by simp[Value.oneCell']) (by omega) (by simp[maxLen];omega) (by omega) (by simp;omega) (wr.heap.size+1) (by simp) ?_;intro gg cap w7 hown7 hgrow hat7 hlt7;obtain⟨y0,y1,y2,y3,k0,k1,k2,k3⟩:=blk4 (HF.out w7 hgrow X _ (show X<w.heap.size+2 by omega) hX6))
      all_goals
       have hX7:=HF.out w7 hgrow X _ (show X<w.heap.size+2 by omega) hX6
       have hZ7:=HF.out w7 hgrow w.heap.size _ (by omega) hZ6
       have hb7:Below w.heap.size w w7:=((hW6.alloc (by omega) _).drew).grown hgrow (by simp;omega) (fun k9 e9=>by have:=(hown6.lt k9 e9).1;omega)
       have hs7:wr.heap.size+1≤w7.heap.size:=by have:=hgrow.size;simp at this;omega
       go_wp2_with fail
       go_roundw
       case rel=>
        refine⟨k+1,rs++[p.extract at_ (at_+long)],some ⟨gg,0,none⟩,cap,by omega,by go_num,?_,?_,?_,?_,?_,?_⟩
        ·simp only[Pg.recsOf,HRS.out]
         rw[if_neg (by rw[← HAT.out,← HLO.out];omega),← HAT.out,← HLO.out]
         rw[extract_eq]
        ·have:=blk_set 3 hX7 (.slice (some ⟨gg,0,none⟩) (k+1) cap)
         simpa using this
        ·rw[Below.heap_setCell _ _ _ _ (by simp;omega)];exact hZ7
        ·have:=ownsRow_set hown7 ⟨X,3,none⟩ (.slice (some ⟨gg,0,none⟩) (k+1) cap) (show X<w.heap.size+2 by omega)
         simpa using this
        ·exact hb7.setCell (by simp;omega) _
        ·simp;omega
       case measure=>simp[intOf];omega
    ·obtain rfl:k=n:=by omega
     have hlen:=HRL.out
     subst hlen
     obtain⟨x0,x1,x2,x3,-⟩:=blk4 HX2.out
     obtain⟨c0,c1,c2,c3,f0,f1,f2,f3⟩:=blk4 HZ2.out
     have hne:X≠w.heap.size:=by omega
     have HRX:=Hq (show Pg.rd p.data.toList=some ⟨lsn,kind,link,rs⟩ by rw[HRD.out,HRS.out];rfl)
     have HF:=Hq (Pg.rd_fine HRX.out).1
     have hcl:=own_cells HO.out rfl
     have HLAY:=Hq (fun W hW=>rlay_any ⟨lsn,kind,link,rs⟩ A c HF.out.small (by have:=HF.out.sizeN;omega) W hW)
     go_upto_region 15 with(first|(go_at_call 31;(with_reducible refine(HLAY.out _ hcl.cells).mono ?_);rintro e w5 ⟨rfl,hb5⟩))
     obtain⟨x0,x1,x2,x3,-⟩:=blk4 (blk_old HX2.out hb5)
     obtain⟨c0,c1,c2,c3,f0,f1,f2,f3⟩:=blk4 (blk_old HZ2.out hb5)
     have hbw6:=andThen HW2.out hb5
     have hcl6:=hcl.below hb5
     clear hcl hb5
     have HC2:=Hq hcl6
     have hqs:(⟨(Pg.layL ⟨lsn,kind,link,rs⟩).toArray⟩:ByteArray).size=(Pg.layL ⟨lsn,kind,link,rs⟩).length:=by simp[ByteArray.size]
     have hql:(⟨(Pg.layL ⟨lsn,kind,link,rs⟩).toArray⟩:ByteArray).data.toList=Pg.layL ⟨lsn,kind,link,rs⟩:=rfl
     generalize (⟨(Pg.layL ⟨lsn,kind,link,rs⟩).toArray⟩:ByteArray)=q at hqs hql ⊢
     rcases Pg.layL_cases ⟨lsn,kind,link,rs⟩with h0|⟨h0,h1⟩
     ·have hq0:q.size=0:=by rw[hqs,h0];rfl
      have HR:=Hq (show Pg.right p.data.toList=none by
       rw[Pg.right_of HRX.out,if_neg]
       rw[decide_eq_true_iff,h0]
       intro h9
       have:=congrArg List.length h9
       rw[List.length_append,Oct.putL_length]at this
       simp at this
       omega)
      clear hqs hql h0
      go_region
      all_goals
       go_wp2_with fail
       refine bodyPost_ret (v:=.tuple #[leafV ⟨lsn,kind,link,rs⟩ A c,false]) (by simp[results,Tryz.results43,go_sem,c0,c1,c2,c3]) rfl ?_
       unfold GivesR
       rw[HR.out]
       refine⟨⟨⟨lsn,kind,link,rs⟩,A,c,rfl⟩,?_⟩
       repeat (first|exact hbw6|refine Below.drew ?_|refine Below.setCell ?_ (by simp) _)
     ·have hq0:q.size=512:=by rw[hqs,h0]
      have hcmp:((q.extract 4 512).toList==(p.extract 4 512).toList)=decide (Pg.layL ⟨lsn,kind,link,rs⟩=Oct.putL 0 4++p.data.toList.drop 4):=by
       rw[ByteArray.toList_eq,ByteArray.toList_eq,show 512=4+508 from rfl,extract_eq,extract_eq]
       have e1:(q.data.toList.drop 4).take 508=q.data.toList.drop 4:=List.take_of_length_le (by rw[hql,List.length_drop,h0];omega)
       have e2:(p.data.toList.drop 4).take 508=p.data.toList.drop 4:=List.take_of_length_le (by rw[List.length_drop,HL.out];omega)
       rw[e1,e2,hql,Bool.beq_eq_decide_eq]
       exact decide_eq_decide.2 (h1 _).symm
      have HR:=Hq (Pg.right_of HRX.out)
      generalize decide (Pg.layL ⟨lsn,kind,link,rs⟩=Oct.putL 0 4++p.data.toList.drop 4)=b at HR hcmp
      have hq4:4≤q.size:=by omega
      have hp4:4≤p.size:=by omega
      clear hqs hql h0 h1
      go_region
      all_goals
       go_wp2_with fail
       refine bodyPost_ret (v:=.tuple #[leafV ⟨lsn,kind,link,rs⟩ A c,b]) (by simp[results,Tryz.results43,go_sem,c0,c1,c2,c3]) rfl ?_
       unfold GivesR
       rw[HR.out]
       refine⟨?_,?_⟩
       ·cases b
        ·exact⟨⟨lsn,kind,link,rs⟩,A,c,rfl⟩
        ·refine⟨A,c,rfl,?_⟩
         refine OwnCells.mono (B:=w.heap.size+2) ?_ (by omega)
         repeat (first|exact HC2.out|exact HC2.out.below (Below.refl _ _).drew|refine OwnCells.set ?_ _ (by simp) _)
       repeat (first|exact hbw6|refine Below.drew ?_|refine Below.setCell ?_ (by simp) _)
 ·have hne:((p.size:Int)==512)=false:=by simp;omega
  have HR:=Hq (show Pg.right p.data.toList=none from Pg.right_none_of (by
   rw[Pg.rd,if_pos (.inl (by have h9:p.data.toList.length=p.size:=(by simp);omega))]))
  clear h512
  go_enter Tryz.func43,Tryz.ntmps43
  go_wp2_with fail
  refine bodyPost_ret (v:=.tuple #[zeroV,false]) (by simp[results,Tryz.results43,go_sem]) rfl ?_
  unfold GivesR
  rw[HR.out]
  exact⟨⟨Pg.zero,none,0,rfl⟩,(Below.refl _ _).alloc (Nat.le_refl _) _⟩
abbrev isPg (p:ByteArray):Bool:=(Pg.right p.data.toList).isSome
abbrev leafP (p:ByteArray):Pg.Leaf:=Pg.leafOf p.data.toList
theorem take_leaf (p:ByteArray)(hm:p.size≤140737488355328)(w:World):
 Calls Tryz.prog 109 #[p] w fun e w'=>∃ A c,e= .returned (.tuple #[leafV (leafP p) A c,.bool (isPg p)])∧OwnCells w.heap.size w' A c (leafP p).recs∧Below w.heap.size w w':=by
 refine(take_any p hm w).mono ?_
 rintro e w' ⟨h,hb⟩
 unfold leafP isPg Pg.leafOf
 revert h
 cases Pg.right p.data.toList with
 |none=>rintro rfl;exact⟨none,0,rfl,fun h0=>by simp[Pg.zero]at h0,hb⟩
 |some x=>rintro⟨A,c,rfl,h⟩;exact⟨A,c,rfl,h,hb⟩
theorem right_any (p:ByteArray)(hm:p.size≤140737488355328)(w:World):
 Calls Tryz.prog 136 #[p] w fun e w'=>e= .returned (.bool (isPg p))∧Below w.heap.size w w':=by
 have HT:=Hq (fun W=>take_leaf p hm W)
 generalize isPg p=b at HT ⊢
 generalize leafP p=x at HT
 go_enter Tryz.func136,Tryz.ntmps136
 go_wp2_with (go_at_call 109;refine(HT.out _).mono ?_;rintro e w1 ⟨A,c,rfl,hcl,hb1⟩)
 go_ret
 exact⟨rfl,by repeat (first|exact hb1|refine Below.alloc ?_ (by first|exact hb1.size|simp) _|refine Below.setCell ?_ (by first|exact hb1.size|simp) _)⟩
theorem lsn_any (p:ByteArray)(hm:p.size≤140737488355328)(w:World):
 Calls Tryz.prog 86 #[p] w fun e w'=>e= .returned (.int .i64 ((leafP p).lsn:Nat))∧Below w.heap.size w w':=by
 have HT:=Hq (fun W=>take_leaf p hm W)
 generalize isPg p=b at HT
 generalize leafP p=x at HT ⊢
 go_enter Tryz.func86,Tryz.ntmps86
 go_wp2_with (go_at_call 109;refine(HT.out _).mono ?_;rintro e w1 ⟨A,c,rfl,hcl,hb1⟩)
 go_ret
 exact⟨rfl,by repeat (first|exact hb1|refine Below.alloc ?_ (by first|exact hb1.size|simp) _|refine Below.setCell ?_ (by first|exact hb1.size|simp) _)⟩
theorem link_any (p:ByteArray)(hm:p.size≤140737488355328)(w:World):
 Calls Tryz.prog 108 #[p] w fun e w'=>e= .returned (.int .i64 ((leafP p).link:Nat))∧Below w.heap.size w w':=by
 have HT:=Hq (fun W=>take_leaf p hm W)
 generalize isPg p=b at HT
 generalize leafP p=x at HT ⊢
 go_enter Tryz.func108,Tryz.ntmps108
 go_wp2_with (go_at_call 109;refine(HT.out _).mono ?_;rintro e w1 ⟨A,c,rfl,hcl,hb1⟩)
 go_ret
 exact⟨rfl,by repeat (first|exact hb1|refine Below.alloc ?_ (by first|exact hb1.size|simp) _|refine Below.setCell ?_ (by first|exact hb1.size|simp) _)⟩
end Go.Proofs.YtmfkhdhnbkambaaGreatDoor
