import Derived.Test.YtilakddepaplhaaGreatHb00
import Derived.Test.YtilakddepaplhaaGreatHb01
import Derived.Deep.QuietTactic
import Derived.BigQuiet
import Derived.Deep.DeepCutAuto
import Derived.Deep.LoopGhost
import Derived.Deep.RegionHeld3
import Derived.Deep.AppendLies
import Derived.Laws.ResultCell
import Derived.Laws.Tables
import Derived.BigRegion
import Derived.IntWalk
import Derived.Maps.AppendAt
import Derived.OwnWalk
import Derived.Deep.MidRow
set_option maxRecDepth 100000
set_option maxHeartbeats 16000000
set_option linter.unusedSimpArgs false
namespace Pg
open Oct
structure Leaf where
 lsn:Nat
 kind:Nat
 link:Nat
 recs:List ByteArray
def Small (x:Leaf):Prop:=x.lsn<281474976710656∧x.kind≤4∧x.link<16777216
def zero:Leaf:=⟨0,0,0,[]⟩
def sumSizes:List ByteArray→Nat
 |[]=>0
 |r::rs=>r.size+sumSizes rs
theorem sumSizes_append (a b:List ByteArray):sumSizes (a++b)=sumSizes a+sumSizes b:=by
 induction a with
 |nil=>simp[sumSizes]
 |cons r a ih=>simp[sumSizes,ih];omega
theorem sumSizes_take_le (rs:List ByteArray)(k:Nat):sumSizes (rs.take k)≤sumSizes rs:=by
 have h:=sumSizes_append (rs.take k) (rs.drop k)
 rw[List.take_append_drop]at h
 omega
theorem sumSizes_snoc (rs:List ByteArray)(k:Nat)(h:k<rs.length):sumSizes (rs.take (k+1))=sumSizes (rs.take k)+rs[k].size:=by
 rw[List.take_succ_eq_append_getElem h,sumSizes_append];simp[sumSizes]
def sizeN (rs:List ByteArray):Nat:=19+4*rs.length+sumSizes rs
def trimN (rs:List ByteArray):Nat→Nat
 |0=>0
 |m+1=>if(rs[m]?.getD ⟨#[]⟩).size=0 then trimN rs m else m+1
theorem trimN_le (rs:List ByteArray)(m:Nat):trimN rs m≤m:=by
 induction m with
 |zero=>exact Nat.le_refl _
 |succ m ih=>unfold trimN;split<;>omega
def trim (rs:List ByteArray):List ByteArray:=rs.take (trimN rs rs.length)
def slotL (at_:Nat)(r:ByteArray):List UInt8:=if r.size=0 then putL 0 4 else putL (at_-r.size) 2++putL r.size 2
def slotsL (at_:Nat):List ByteArray→List UInt8
 |[]=>[]
 |r::rs=>slotL at_ r++slotsL (at_-r.size) rs
theorem slotsL_append (a b:List ByteArray):∀ at_:Nat,slotsL at_ (a++b)=slotsL at_ a++slotsL (at_-sumSizes a) b:=by
 induction a with
 |nil=>intro at_;simp[slotsL,sumSizes]
 |cons r a ih=>intro at_;simp only[List.cons_append,slotsL,ih,sumSizes,List.append_assoc,Nat.sub_sub]
theorem slotsL_snoc (rs:List ByteArray)(k:Nat)(h:k<rs.length):slotsL 512 (rs.take (k+1))=slotsL 512 (rs.take k)++slotL (512-sumSizes (rs.take k)) rs[k]:=by
 rw[List.take_succ_eq_append_getElem h,slotsL_append];simp[slotsL]
theorem slotL_length (at_:Nat)(r:ByteArray):(slotL at_ r).length=4:=by
 unfold slotL;split<;>simp[putL_length]
theorem slotsL_length (rs:List ByteArray):∀ at_,(slotsL at_ rs).length=4*rs.length:=by
 induction rs with
 |nil=>intro _;rfl
 |cons r rs ih=>intro at_;simp[slotsL,slotL_length,ih];omega
def bodyL:List ByteArray→List UInt8
 |[]=>[]
 |r::rs=>bodyL rs++r.data.toList
theorem bodyL_length (rs:List ByteArray):(bodyL rs).length=sumSizes rs:=by
 induction rs with
 |nil=>rfl
 |cons r rs ih=>simp[bodyL,sumSizes,ih];omega
theorem bodyL_append (a b:List ByteArray):bodyL (a++b)=bodyL b++bodyL a:=by
 induction a with
 |nil=>simp[bodyL]
 |cons r a ih=>simp[bodyL,ih]
theorem bodyL_snoc (rs:List ByteArray)(k:Nat)(h:k<rs.length):bodyL (rs.take (k+1))=rs[k].data.toList++bodyL (rs.take k):=by
 rw[List.take_succ_eq_append_getElem h,bodyL_append];simp[bodyL]
def headL (x:Leaf)(n at_:Nat):List UInt8:=putL 0 4++putL x.lsn 6++putL x.kind 1++putL 0 1++putL x.link 3++putL n 2++putL at_ 2
theorem headL_length (x:Leaf)(n at_:Nat):(headL x n at_).length=19:=by simp[headL,putL_length]
def layR (x:Leaf)(rs:List ByteArray):List UInt8:=
 if 512<sizeN rs then[]else headL x rs.length (512-sumSizes rs)++slotsL 512 rs++List.replicate (512-sizeN rs) 0++bodyL rs
def layL (x:Leaf):List UInt8:=layR x (trim x.recs)
theorem layR_length (x:Leaf)(rs:List ByteArray)(h:¬ 512<sizeN rs):(layR x rs).length=512:=by
 rw[layR,if_neg h]
 simp[headL_length,slotsL_length,bodyL_length]
 unfold sizeN at h ⊢;omega
def recsOf (p:List UInt8):Nat→Option (List ByteArray)
 |0=>some []
 |k+1=>match recsOf p k with
  |none=>none
  |some rs=>
   if 400<getN p (21+4*k) 2∨512<getN p (19+4*k) 2+getN p (21+4*k) 2 then none
   else some (rs++[⟨((p.drop (getN p (19+4*k) 2)).take (getN p (21+4*k) 2)).toArray⟩])
theorem recsOf_length (p:List UInt8):∀ (k:Nat) (rs:List ByteArray),recsOf p k=some rs→rs.length=k:=by
 intro k
 induction k with
 |zero=>intro rs h;simp[recsOf]at h;rw[h];rfl
 |succ k ih=>
  intro rs h
  unfold recsOf at h
  split at h
  ·cases h
  ·rename_i r0 h0
   split at h
   ·cases h
   ·injection h with h
    rw[← h,List.length_append,ih _ h0];rfl
theorem recsOf_none (p:List UInt8){k:Nat}(h:recsOf p k=none):∀ j,recsOf p (k+j)=none:=by
 intro j
 induction j with
 |zero=>exact h
 |succ j ih=>
  show recsOf p ((k+j)+1)=none
  simp only[recsOf,ih]
def rd (p:List UInt8):Option Leaf:=
 if p.length≠512∨4<getN p 10 1∨123<getN p 15 2 then none
 else(recsOf p (getN p 15 2)).map fun rs=>⟨getN p 4 6,getN p 10 1,getN p 12 3,rs⟩
def right (p:List UInt8):Option Leaf:=(rd p).filter fun x=>decide (layL x=putL 0 4++p.drop 4)
def leafOf (p:List UInt8):Leaf:=(right p).getD zero
theorem getN_pow (s:List UInt8)(a k:Nat):Oct.getN s a k<256^k:=by
 have h1:=Oct.getL_lt ((s.drop a).take k)
 have h2:256^((s.drop a).take k).length≤256^k:=Nat.pow_le_pow_right (by omega) (by rw[List.length_take];omega)
 unfold Oct.getN;omega
theorem recsOf_sizes (p:List UInt8):∀ (k:Nat) (rs:List ByteArray),recsOf p k=some rs→∀ r∈rs,r.size≤400:=by
 intro k
 induction k with
 |zero=>intro rs h;simp[recsOf]at h;subst h;intro r hr;cases hr
 |succ k ih=>
  intro rs h
  unfold recsOf at h
  split at h
  ·cases h
  ·rename_i r0 h0
   split at h
   ·cases h
   ·rename_i hc
    injection h with h
    intro r hr
    rw[← h,List.mem_append]at hr
    rcases hr with hr|hr
    ·exact ih r0 h0 r hr
    ·rw[List.mem_singleton.1 hr]
     simp[ByteArray.size]
     omega
theorem sumSizes_le (rs:List ByteArray)(m:Nat)(h:∀ r∈rs,r.size≤m):sumSizes rs≤m*rs.length:=by
 induction rs with
 |nil=>simp[sumSizes]
 |cons r rs ih=>
  have h1:=h r (by simp)
  have h2:=ih (fun r hr=>h r (by simp[hr]))
  simp only[sumSizes,List.length_cons,Nat.mul_succ]
  omega
structure Fine (x:Leaf):Prop where
 small:Small x
 len:x.recs.length≤123
 each:∀ r∈x.recs,r.size≤400
theorem Fine.sum {x:Leaf}(h:Fine x):sumSizes x.recs≤49200:=by
 have:=sumSizes_le x.recs 400 h.each
 have:=h.len
 omega
theorem Fine.sizeN {x:Leaf}(h:Fine x):Pg.sizeN x.recs≤60000:=by
 have:=h.sum
 have:=h.len
 unfold Pg.sizeN;omega
theorem zero_fine:Fine zero:=⟨⟨by decide,by decide,by decide⟩,by decide,by intro r hr;cases hr⟩
theorem rd_fine {p:List UInt8}{x:Leaf}(h:rd p=some x):Fine x∧p.length=512:=by
 unfold rd at h
 split at h
 ·cases h
 ·rename_i hc
  cases hr:recsOf p (getN p 15 2)with
  |none=>rw[hr]at h;cases h
  |some rs=>
   rw[hr]at h
   injection h with h
   subst h
   have h1:=getN_pow p 4 6
   have h2:=getN_pow p 12 3
   refine⟨⟨⟨by simpa using h1,(by show getN p 10 1≤4;omega),by simpa using h2⟩,(by show rs.length≤123;rw[recsOf_length p _ rs hr];omega),recsOf_sizes p _ rs hr⟩,by omega⟩
theorem layL_cases (x:Leaf):layL x=[]∨((layL x).length=512∧∀ p:List UInt8,(layL x=putL 0 4++p.drop 4↔(layL x).drop 4=p.drop 4)):=by
 by_cases h:512<Pg.sizeN (trim x.recs)
 ·left;unfold layL layR;rw[if_pos h]
 ·right
  refine⟨layR_length x _ h,fun p=>?_⟩
  have h1:layL x=putL 0 4++(layL x).drop 4:=by
   unfold layL layR
   rw[if_neg h]
   unfold headL
   simp only[List.append_assoc]
   rw[List.drop_append_of_le_length (by rw[putL_length];exact Nat.le_refl _),List.drop_of_length_le (by rw[putL_length];exact Nat.le_refl _),List.nil_append]
  constructor
  ·intro h2;rw[h2,List.drop_append_of_le_length (by rw[putL_length];exact Nat.le_refl _),List.drop_of_length_le (by rw[putL_length];exact Nat.le_refl _),List.nil_append]
  ·intro h2;rw[h1,h2]
theorem right_some {p:List UInt8}{x:Leaf}:right p=some x↔rd p=some x∧layL x=putL 0 4++p.drop 4:=by
 unfold right
 rw[Option.filter_eq_some_iff,decide_eq_true_iff]
theorem right_of {p:List UInt8}{x:Leaf}(h:rd p=some x):right p=if decide (layL x=putL 0 4++p.drop 4)then some x else none:=by
 unfold right
 rw[h];rfl
theorem right_none_of {p:List UInt8}(h:rd p=none):right p=none:=by unfold right;rw[h];rfl
theorem right_fine {p:List UInt8}{x:Leaf}(h:right p=some x):Fine x∧p.length=512:=rd_fine (right_some.1 h).1
theorem leafOf_fine (p:List UInt8):Fine (leafOf p):=by
 unfold leafOf
 cases h:right p with
 |none=>exact zero_fine
 |some x=>exact(right_fine h).1
def slotAt (rs:List ByteArray)(i:Int):ByteArray:=if i<0 then⟨#[]⟩else(rs[i.toNat]?).getD ⟨#[]⟩
theorem slotAt_neg {rs:List ByteArray}{i:Int}(h:i<0):slotAt rs i=⟨#[]⟩:=if_pos h
theorem slotAt_past {rs:List ByteArray}{i:Int}(h:(rs.length:Int)≤i):slotAt rs i=⟨#[]⟩:=by
 unfold slotAt
 rw[if_neg (by omega),List.getElem?_eq_none (by omega)];rfl
theorem slotAt_in {rs:List ByteArray}{k:Nat}(h:k<rs.length):slotAt rs (k:Int)=rs[k]:=by
 unfold slotAt
 rw[if_neg (by omega),show((k:Int).toNat)=k from rfl,List.getElem?_eq_getElem h];rfl
theorem getN_app (a b:List UInt8)(u k:Nat)(h:u<256^k):getN (a++(putL u k++b)) a.length k=u:=by
 unfold getN
 rw[List.drop_left,List.take_left' (putL_length u k),getL_putL,Nat.mod_eq_of_lt h]
theorem getN_app' (l a b:List UInt8)(n u k:Nat)(hl:l=a++(putL u k++b))(hn:a.length=n)(h:u<256^k):getN l n k=u:=by
 rw[hl,← hn];exact getN_app a b u k h
def Tight (rs:List ByteArray):Prop:=∀ r,rs.getLast? =some r→r.size≠0
theorem trim_tight (rs:List ByteArray):trim rs=rs↔Tight rs:=by
 have h0:trim rs=rs↔trimN rs rs.length=rs.length:=by
  unfold trim
  constructor
  ·intro h
   have h1:=congrArg List.length h
   rw[List.length_take]at h1
   have:=trimN_le rs rs.length
   omega
  ·intro h;rw[h,List.take_length]
 rw[h0]
 unfold Tight
 rw[List.getLast?_eq_getElem?]
 rcases hm:rs.length with _|m
 ·simp[trimN,hm]
 ·have hlt:m<rs.length:=by omega
  have hg:rs[m]? =some rs[m]:=List.getElem?_eq_getElem hlt
  simp only[Nat.add_sub_cancel,hg,Option.some.injEq,forall_eq',trimN,Option.getD_some]
  constructor
  ·intro h hz
   rw[if_pos hz]at h
   have:=trimN_le rs m
   omega
  ·intro h;rw[if_neg h]
theorem layL_eq {x:Leaf}(h:sizeN (trim x.recs)≤512):layL x=headL x (trim x.recs).length (512-sumSizes (trim x.recs))++slotsL 512 (trim x.recs)++List.replicate (512-sizeN (trim x.recs)) 0++bodyL (trim x.recs):=by
 unfold layL layR
 rw[if_neg (by omega)]
def headT (x:Leaf)(n a:Nat):List UInt8:=putL x.lsn 6++(putL x.kind 1++(putL 0 1++(putL x.link 3++(putL n 2++putL a 2))))
theorem headL_eq (x:Leaf)(n a:Nat):headL x n a=putL 0 4++headT x n a:=by unfold headL headT;simp only[List.append_assoc]
def tailR (x:Leaf)(rs:List ByteArray):List UInt8:=headT x rs.length (512-sumSizes rs)++(slotsL 512 rs++(List.replicate (512-sizeN rs) 0++bodyL rs))
theorem layL_tail {x:Leaf}(h:sizeN (trim x.recs)≤512):layL x=putL 0 4++tailR x (trim x.recs):=by
 rw[layL_eq h,headL_eq];unfold tailR;simp only[List.append_assoc]
structure Heads (x:Leaf) (l:List UInt8) (n:Nat):Prop where
 lsn:getN l 4 6=x.lsn
 kind:getN l 10 1=x.kind
 link:getN l 12 3=x.link
 count:getN l 15 2=n
theorem headT_reads (h:List UInt8)(hh:h.length=4)(x:Leaf)(hx:Small x)(n a:Nat)(hn:n<65536)(b:List UInt8):Heads x (h++(headT x n a++b)) n:=by
 obtain⟨h1,h2,h3⟩:=hx
 constructor
 ·exact getN_app' _ h (putL x.kind 1++(putL 0 1++(putL x.link 3++(putL n 2++(putL a 2++b))))) _ _ _ (by simp[headT]) (by simp[hh]) (by omega)
 ·exact getN_app' _ (h++putL x.lsn 6) (putL 0 1++(putL x.link 3++(putL n 2++(putL a 2++b)))) _ _ _ (by simp[headT]) (by simp[putL_length,hh]) (by omega)
 ·exact getN_app' _ (h++putL x.lsn 6++putL x.kind 1++putL 0 1) (putL n 2++(putL a 2++b)) _ _ _ (by simp[headT]) (by simp[putL_length,hh]) (by omega)
 ·exact getN_app' _ (h++putL x.lsn 6++putL x.kind 1++putL 0 1++putL x.link 3) (putL a 2++b) _ _ _ (by simp[headT]) (by simp[putL_length,hh]) (by omega)
theorem sumSizes_split (rs:List ByteArray)(k:Nat)(h:k<rs.length):sumSizes rs=sumSizes (rs.take k)+rs[k].size+sumSizes (rs.drop (k+1)):=by
 have h1:rs=rs.take k++rs[k]::rs.drop (k+1):=by rw[← List.drop_eq_getElem_cons h,List.take_append_drop]
 conv=>lhs;rw[h1]
 rw[sumSizes_append];simp[sumSizes];omega
theorem right_tight {p:List UInt8}{x:Leaf}(h:right p=some x):Tight x.recs∧sizeN x.recs≤512:=by
 obtain⟨h1,h2⟩:=right_some.1 h
 obtain⟨hf,h512⟩:=rd_fine h1
 have hlen:(layL x).length=512:=by
  rw[h2,List.length_append,putL_length,List.length_drop,h512]
 have hs:sizeN (trim x.recs)≤512:=by
  rcases Nat.lt_or_ge 512 (sizeN (trim x.recs))with h3|h3
  ·have:layL x=[]:=by unfold layL layR;rw[if_pos h3]
   rw[this]at hlen;cases hlen
  ·exact h3
 have hd:=headT_reads (putL 0 4) (putL_length 0 4) x hf.small (trim x.recs).length (512-sumSizes (trim x.recs)) (by have:sizeN (trim x.recs)=19+4*(trim x.recs).length+sumSizes (trim x.recs):=rfl;omega) (slotsL 512 (trim x.recs)++(List.replicate (512-sizeN (trim x.recs)) 0++bodyL (trim x.recs)))
 change Heads x (putL 0 4++tailR x (trim x.recs)) _ at hd
 rw[← layL_tail hs]at hd
 have hc:=hd.count
 have hcp:getN (layL x) 15 2=getN p 15 2:=by
  rw[h2]
  unfold getN
  rw[show 15=4+11 from rfl,← List.drop_drop,← List.drop_drop,List.drop_left' (putL_length 0 4)]
 have hn:x.recs.length=getN p 15 2:=by
  unfold rd at h1
  split at h1
  ·cases h1
  ·cases hr:recsOf p (getN p 15 2)with
   |none=>rw[hr]at h1;cases h1
   |some rs=>
    rw[hr]at h1
    injection h1 with h1
    rw[← h1]
    exact recsOf_length p _ rs hr
 have ht:trim x.recs=x.recs:=by
  have h5:(trim x.recs).length=x.recs.length:=by rw[hn,← hcp,hc]
  unfold trim at h5 ⊢
  rw[List.length_take]at h5
  exact List.take_of_length_le (by omega)
 exact⟨(trim_tight _).1 ht,by rw[ht]at hs;exact hs⟩
end Pg
namespace Go.Proofs.YtilakddepaplhaaGreat
open Go.RowKit
def Cells (w:World)(A:Option Addr)(c:Nat)(rs:List ByteArray):Prop:=
 0<rs.length→∃ b off,A=some ⟨b,off,none⟩∧rs.length≤c∧b<w.heap.size∧∀ j (h:j<rs.length),w.cell? ⟨b,off+j,none⟩=some (.string rs[j])
def StrsAt (w:World)(v:Value)(rs:List ByteArray):Prop:=∃ A c,v= .slice A rs.length c∧Cells w A c rs
theorem Cells.below {w w':World}{A:Option Addr}{c:Nat}{rs:List ByteArray}(h:Cells w A c rs)(hb:Below w.heap.size w w'):Cells w' A c rs:=fun h0=>by
 obtain⟨b,off,hA,hc,hlt,hcell⟩:=h h0
 refine⟨b,off,hA,hc,Nat.lt_of_lt_of_le hlt hb.size,fun j hj=>?_⟩
 rw[hb.cell (p:=⟨b,off+j,none⟩) hlt];exact hcell j hj
theorem Cells.at_ {w:World}{A:Option Addr}{c:Nat}{rs:List ByteArray}(h:Cells w A c rs){k:Nat}(hk:k<rs.length):∃ b off,A=some ⟨b,off,none⟩∧rs.length≤c∧b<w.heap.size∧w.cell? ⟨b,off+k,none⟩=some (.string rs[k]):=by
 obtain⟨b,off,hA,hc,hlt,hcell⟩:=h (by omega)
 exact⟨b,off,hA,hc,hlt,hcell k hk⟩
theorem StrsAt.below {w w':World}{v:Value}{rs:List ByteArray}(h:StrsAt w v rs)(hb:Below w.heap.size w w'):StrsAt w' v rs:=by
 obtain⟨A,c,hv,hC⟩:=h
 exact⟨A,c,hv,hC.below hb⟩
theorem ret_str {a b:ByteArray}(h:a=b):Ending.returned (.string a)= .returned (.string b):=by rw[h]
theorem andThen {a b c:World}(h:Below a.heap.size a b)(k:Below b.heap.size b c):Below a.heap.size a c:=h.trans (k.mono h.size)
theorem empty_iff (r:ByteArray):r.toList.isEmpty=decide (r.size=0):=by
 rw[ByteArray.toList_eq]
 have h:r.data.toList.length=r.size:=by simp
 cases hl:r.data.toList with
 |nil=>rw[hl]at h;simp at h;simp[h.symm]
 |cons a l=>
  rw[hl,List.length_cons]at h
  simp only[List.isEmpty_cons]
  exact(decide_eq_false (by omega)).symm
theorem rput_S (S:World→Prop)(hst:∀ u v,S u→Below u.heap.size u v→S v)(n size:Int)(h0:0≤size)(h8:size≤8)(w:World)(h:S w):
 Calls Tryz.prog 111 #[n,size] w fun e w'=>e= .returned (.string (Oct.putB n size))∧S w':=by
 refine(rput_any n size h0 h8 w).mono ?_
 rintro e w' ⟨rfl,hb⟩
 exact⟨rfl,hst _ _ h hb⟩
theorem rtrimmed_any (A:Option Addr)(c:Nat)(rs:List ByteArray)(hl:rs.length≤1099511627776)(w:World)(h:Cells w A c rs):
 Calls Tryz.prog 164 #[.slice A rs.length c] w fun e w'=>e= .returned (.slice A (Pg.trimN rs rs.length) c)∧w=w':=by
 have HC:=Hq h
 clear h
 go_enter Tryz.func164,Tryz.ntmps164
 go_wp2_with fail
 go_loop [0] (fun v=>∃ m:Nat,m≤rs.length∧Pg.trimN rs m=Pg.trimN rs rs.length∧v= .slice A m c) (fun v=>match v with| .slice _ m _=>m|_=>0)
 case atStart=>exact⟨rs.length,Nat.le_refl _,rfl,rfl⟩
 case round=>
  obtain⟨m,hm,ht,rfl⟩:=hrel
  have HT:=Hq ht
  clear ht
  by_cases h0:m=0
  ·subst h0
   go_wp2_with fail
   go_ret
   exact⟨by rw[← HT.out];rfl,rfl⟩
  ·obtain⟨b,off,rfl,hc,hbl,hcell⟩:=HC.out.at_ (k:=m-1) (by omega)
   obtain⟨m,rfl⟩:∃ n,m=n+1:=⟨m-1,by omega⟩
   simp only[Nat.add_sub_cancel]at hcell
   have hie:=empty_iff rs[m]
   have HR:=Hq (show rs[m]?.getD ⟨#[]⟩=rs[m] by simp[show m<rs.length by omega])
   generalize hr:rs[m]=r at hcell hie HR
   clear hr
   by_cases he:r.size=0
   ·have hie2:r.toList.isEmpty=true:=by rw[hie];exact decide_eq_true he
    clear hie
    have HE:=Hq he
    clear he
    go_wp2_with fail
    go_round
    case rel=>exact⟨m,by omega,by rw[← HT.out,Pg.trimN,HR.out,if_pos HE.out],rfl⟩
    case measure=>simp
   ·have hie2:r.toList.isEmpty=false:=by rw[hie];exact decide_eq_false he
    clear hie
    have HE:=Hq he
    clear he
    go_wp2_with fail
    go_ret
    exact⟨by rw[← HT.out,Pg.trimN,HR.out,if_neg HE.out];rfl,rfl⟩
theorem rfits_any (x:Pg.Leaf)(A:Option Addr)(c:Nat)(rs:List ByteArray)(hb:Pg.sizeN rs≤1099511627776)(w:World)(h:Cells w A c rs):
 Calls Tryz.prog 165 #[.agg #[x.lsn,x.kind,x.link,.slice A rs.length c]] w fun e w'=>e= .returned (.bool (decide (Pg.sizeN rs≤512)))∧Below w.heap.size w w':=by
 unfold Pg.sizeN at hb
 have HC:=Hq h
 clear h
 go_enter Tryz.func165,Tryz.ntmps165
 go_wp2_with fail
 go_loop [3,4] (fun n i=>∃ k:Nat,k≤rs.length∧i= .int .i64 k∧n= .int .i64 ((19+4*rs.length+Pg.sumSizes (rs.take k):Nat):Int)) (fun _ i=>rs.length-(intOf i).toNat)
 case atStart=>exact⟨0,Nat.zero_le _,rfl,by simp[Pg.sumSizes]⟩
 case round=>
  obtain⟨k,hk,rfl,rfl⟩:=hrel
  have hle:=Pg.sumSizes_take_le rs k
  by_cases hlt:k<rs.length
  ·obtain⟨b,off,rfl,hc,hbl,hcell⟩:=HC.out.at_ hlt
   have HS:=Hq (Pg.sumSizes_snoc rs k hlt)
   have hle2:=Pg.sumSizes_take_le rs (k+1)
   have hsz:Pg.sumSizes (rs.take k)+rs[k].size≤Pg.sumSizes rs:=by rw[← HS.out];exact hle2
   have hcc:(World.cell? (w.alloc (.cells #[x.lsn,x.kind,x.link,.slice (some ⟨b,off,none⟩) rs.length c] 152)) ⟨b,off+k,none⟩)=some (.string rs[k]):=by
    rw[World.cell?_alloc_lt _ _ _ hbl];exact hcell
   clear hle2
   generalize hr:rs[k]=r at hcell hsz hcc
   have HR:=Hq hr
   clear hr
   go_wp2_with fail
   go_round
   case rel=>exact⟨k+1,by omega,by go_num,by rw[HS.out,HR.out];go_num⟩
   case measure=>simp[intOf];omega
  ·obtain rfl:k=rs.length:=by omega
   go_wp2_with fail
   go_ret
   exact⟨congrArg (fun b=>Ending.returned (.bool b)) (by unfold Pg.sizeN;rw[decide_eq_decide];omega),(Below.refl _ _).alloc (Nat.le_refl _) _⟩
theorem rfits_is (x:Pg.Leaf)(A:Option Addr)(c:Nat)(rs:List ByteArray)(hb:Pg.sizeN rs≤1099511627776)(b:Bool)(hd:decide (Pg.sizeN rs≤512)=b)(w:World)(h:Cells w A c rs):
 Calls Tryz.prog 165 #[.agg #[x.lsn,x.kind,x.link,.slice A rs.length c]] w fun e w'=>e= .returned (.bool b)∧Below w.heap.size w w':=by
 subst hd;exact rfits_any x A c rs hb w h
theorem Cells.take {w:World}{A:Option Addr}{c:Nat}{rs:List ByteArray}(h:Cells w A c rs)(m:Nat)(hm:m≤rs.length):Cells w A c (rs.take m):=fun h0=>by
 rw[List.length_take]at h0
 obtain⟨b,off,hA,hc,hlt,hcell⟩:=h (by omega)
 refine⟨b,off,hA,by rw[List.length_take];omega,hlt,fun j hj=>?_⟩
 rw[List.getElem_take];exact hcell j (by rw[List.length_take]at hj;omega)
theorem pmake_zeros (n:Nat)(hn:n≤4096)(W:World):(Instr.makeSlice 120 (.int .i64 (n:Int)) (.int .i64 (n:Int))).run Tryz.prog W= .ok (.slice (some ⟨W.heap.size,0,none⟩) n n) (W.alloc (.cells (madeCells #[Value.int .u8 0] n) 5)):=by
 obtain⟨i0,hi,hz0,hz1,hz2⟩:=info_parts Tryz.elem8
 have h:=run_make (P:=Tryz.prog) W 120 5 i0 (.int .u8 0) Tryz.underlying120 hi hz0 .i64 .i64 n n (by omega) (by omega) (by rw[hz2];omega) (by omega)
 rw[hz1,Int.toNat_natCast,Nat.mul_one]at h
 exact h
theorem pzeros_back (n:Nat)(W:World):(convert 120 9 (.slice (some ⟨W.heap.size,0,none⟩) n n)).run Tryz.prog (W.alloc (.cells (madeCells #[Value.int .u8 0] n) 5))= .ok (.string ⟨(List.replicate n 0).toArray⟩) (W.alloc (.cells (madeCells #[Value.int .u8 0] n) 5)):=by
 have h:=run_convert_bytes_back (P:=Tryz.prog) (W.alloc (.cells (madeCells #[Value.int .u8 0] n) 5)) 120 9 5 ⟨W.heap.size,0,none⟩ n (List.replicate n 0) Tryz.underlying120 Tryz.underlying5 Tryz.underlying9 (fun j hj=>by
  have hj':j<n:=by simpa using hj
  have ha:(⟨W.heap.size,0,none⟩:Addr).add j=⟨W.heap.size,j,none⟩:=by
   unfold Addr.add;split
   ·rename_i h;rw[h]
   ·simp
  rw[ha,World.cell?_alloc_new]
  simp[madeCells,hj',Nat.mod_one])
 rw[List.length_replicate]at h
 exact h
theorem rlay_any (x:Pg.Leaf)(A:Option Addr)(c:Nat)(hx:Pg.Small x)(hb:Pg.sizeN x.recs≤1099511627776)(w:World)(h:Cells w A c x.recs):
 Calls Tryz.prog 102 #[.agg #[x.lsn,x.kind,x.link,.slice A x.recs.length c]] w fun e w'=>e= .returned (.string ⟨(Pg.layL x).toArray⟩)∧Below w.heap.size w w':=by
 have HXS:=Hq hx
 clear hx
 have hbn:x.recs.length≤1099511627776:=by unfold Pg.sizeN at hb;omega
 have hm:=Pg.trimN_le x.recs x.recs.length
 have HL:=Hq (show Pg.layL x=Pg.layR x (x.recs.take (Pg.trimN x.recs x.recs.length))from rfl)
 have HC:=Hq (h.take _ hm)
 have HA:=Hq h
 have hsz:Pg.sizeN (x.recs.take (Pg.trimN x.recs x.recs.length))≤1099511627776:=by
  have:=Pg.sumSizes_take_le x.recs (Pg.trimN x.recs x.recs.length)
  unfold Pg.sizeN at*
  rw[List.length_take];omega
 have hlen:(x.recs.take (Pg.trimN x.recs x.recs.length)).length=Pg.trimN x.recs x.recs.length:=by rw[List.length_take];omega
 have HT:=Hq (fun W hW=>rtrimmed_any A c x.recs hbn W hW)
 rw[← hlen]at HT
 generalize x.recs.take (Pg.trimN x.recs x.recs.length)=rs at HL HC hsz hlen HT
 clear h hb hm hlen
 by_cases hfit:512<Pg.sizeN rs
 ·have HFi:=Hq (rfits_is x A c rs hsz false (decide_eq_false (by omega)))
  go_enter Tryz.func102,Tryz.ntmps102
  go_wp2_with (first|(go_at_call 164;refine(HT.out _ (HA.out.below ((Below.refl _ _).alloc (Nat.le_refl _) _))).mono ?_;rintro e w' ⟨rfl,rfl⟩)|(go_at_call 165;refine(HFi.out _ (HC.out.below ((Below.refl _ _).alloc (Nat.le_refl _) _))).mono ?_;rintro e w1 ⟨rfl,hb1⟩))
  go_ret
  exact⟨ret_str (by rw[HL.out,Pg.layR,if_pos hfit]),((Below.refl _ _).alloc (Nat.le_refl _) _).trans (hb1.mono (by simp))⟩
 ·have HFi:=Hq (rfits_is x A c rs hsz true (decide_eq_true (by omega)))
  go_enter Tryz.func102,Tryz.ntmps102
  go_upto_block 0 with(first|(go_at_call 164;refine(HT.out _ (HA.out.below ((Below.refl _ _).alloc (Nat.le_refl _) _))).mono ?_;rintro e w' ⟨rfl,rfl⟩)|(go_at_call 165;refine(HFi.out _ (HC.out.below ((Below.refl _ _).alloc (Nat.le_refl _) _))).mono ?_;rintro e w1 ⟨rfl,hb1⟩))
  have hs512:Pg.sumSizes rs≤512:=by unfold Pg.sizeN at hfit;omega
  have hn123:rs.length≤512:=by unfold Pg.sizeN at hfit;omega
  have hX:w.heap.size<w1.heap.size:=by have:=hb1.size;simp at this;omega
  have hw1:Below w.heap.size w w1:=((Below.refl _ _).alloc (Nat.le_refl _) _).trans (hb1.mono (by simp))
  have hx1:w1.heap[w.heap.size]? =some (.cells #[x.lsn,x.kind,x.link,.slice A rs.length c] 152 (0,0)):=by
   rw[hb1.block _ (by simp)]
   exact heap_alloc_new w _
  have HW1:=Hq hw1
  have HX1:=Hq hx1
  have HFIT:=Hq hfit
  clear hb1 hw1 hx1 hfit
  go_cut [3,4,5] (fun s3 s4 s5 wc=>s3= .int .i64 ((512-Pg.sumSizes rs:Nat):Int)∧s4= .string ⟨(Pg.slotsL 512 rs).toArray⟩∧s5= .string ⟨(Pg.bodyL rs).toArray⟩∧Below w1.heap.size w1 wc)
  case first=>
   go_wp2_with fail
   go_loopw [3,4,5,6] (fun s3 s4 s5 i wr=>∃ (k a:Nat) (S B:ByteArray),k≤rs.length∧i= .int .i64 k∧s3= .int .i64 (a:Int)∧a=512-Pg.sumSizes (rs.take k)∧s4= .string S∧S.data.toList=Pg.slotsL 512 (rs.take k)∧s5= .string B∧B.data.toList=Pg.bodyL (rs.take k)∧Below w1.heap.size w1 wr) (fun _ _ _ i _=>rs.length-(intOf i).toNat)
   case atStart=>exact⟨0,512,⟨#[]⟩,⟨#[]⟩,Nat.zero_le _,rfl,rfl,by simp[Pg.sumSizes],rfl,rfl,rfl,rfl,Below.refl _ _⟩
   case round=>
    obtain⟨k,a,S,B,hk,rfl,rfl,ha,rfl,hS,rfl,hB,hbw⟩:=hrel
    have d3:wr.cell? ⟨w.heap.size,3,none⟩=some (.slice A rs.length c):=by
     have:wr.heap[w.heap.size]? =_:=(hbw.block _ hX).trans HX1.out
     rw[cell_of_blk this];rfl
    have ha512:a≤512:=by omega
    have hSs:S.size≤4096:=by
     have h1:S.data.toList.length=S.size:=by simp
     rw[hS,Pg.slotsL_length,List.length_take]at h1;omega
    have hBs:B.size≤512:=by
     have h1:B.data.toList.length=B.size:=by simp
     have:=Pg.sumSizes_take_le rs k
     rw[hB,Pg.bodyL_length]at h1;omega
    have HA3:=Hq ha
    have HS:=Hq hS
    have HB:=Hq hB
    have hbs:=hbw.size
    clear ha hS hB
    by_cases hlt:k<rs.length
    ·obtain⟨b,off,rfl,hc,hbl,hcell⟩:=HC.out.at_ hlt
     have hcw:wr.cell? ⟨b,off+k,none⟩=some (.string rs[k]):=by
      rw[hbw.cell (p:=⟨b,off+k,none⟩) (by show b<_;omega),HW1.out.cell (p:=⟨b,off+k,none⟩) hbl];exact hcell
     have HSS:=Hq (Pg.sumSizes_snoc rs k hlt)
     have HSL:=Hq (Pg.slotsL_snoc rs k hlt)
     have HBL:=Hq (Pg.bodyL_snoc rs k hlt)
     have hra:rs[k].size≤a:=by
      have:=Pg.sumSizes_take_le rs (k+1)
      have:=HSS.out
      have:=HA3.out
      omega
     have hie:=empty_iff rs[k]
     clear hcell
     generalize hr:rs[k]=r at hcw hie HSS HSL HBL hra
     clear hr
     by_cases he:r.size=0
     ·have hie2:r.toList.isEmpty=true:=by rw[hie];exact decide_eq_true he
      clear hie
      have HE:=Hq he
      clear he
      have z0:(Oct.putB 0 4).size=4:=Oct.putB_size 0 4 (by omega)
      go_wp2_with (go_at_call 111;refine(rput_any _ _ (by omega) (by omega) _).mono ?_;rintro e w2 ⟨rfl,hb2⟩)
      go_roundw
      case rel=>exact⟨k+1,a,_,B,by omega,by go_num,rfl,by rw[HSS.out,HE.out];exact HA3.out,rfl,by
       rw[HSL.out,Pg.slotL,if_pos HE.out,ByteArray.data_append,Array.toList_append,HS.out,show(Oct.putB 0 4).data.toList=Oct.putL 0 4 from Oct.putB_list 0 4 (by omega)],rfl,by
       rw[HBL.out,HB.out,show r.data.toList=[]from List.eq_nil_of_length_eq_zero (by have h9:r.data.toList.length=r.size:=(by simp);rw[h9];exact HE.out)];rfl,andThen hbw hb2⟩
      case measure=>simp[intOf];omega
     ·have hie2:r.toList.isEmpty=false:=by rw[hie];exact decide_eq_false he
      clear hie
      have HE:=Hq he
      clear he
      obtain⟨a2,ha2⟩:=ex (a-r.size:Nat)
      have ha2i:(a:Int)-(r.size:Int)=(a2:Int):=by omega
      have hst:∀ u v:World,(u.cell? ⟨w.heap.size,3,none⟩=some (.slice (some ⟨b,off,none⟩) rs.length c)∧u.cell? ⟨b,off+k,none⟩=some (.string r)∧Below w1.heap.size w1 u)→Below u.heap.size u v→(v.cell? ⟨w.heap.size,3,none⟩=some (.slice (some ⟨b,off,none⟩) rs.length c)∧v.cell? ⟨b,off+k,none⟩=some (.string r)∧Below w1.heap.size w1 v):=fun u v ⟨c1,c2,c3⟩ hb=>by
       have:=c3.size
       refine⟨?_,?_,andThen c3 hb⟩
       ·rw[hb.cell (p:=⟨w.heap.size,3,none⟩) (by show w.heap.size<_;omega)];exact c1
       ·rw[hb.cell (p:=⟨b,off+k,none⟩) (by show b<_;omega)];exact c2
      have HST:=Hq hst
      have hk0:(0:Int)≤(k:Int):=by omega
      have hk1:(k:Int)<(rs.length:Int):=by omega
      have z1:(Oct.putB a2 2).size=2:=Oct.putB_size a2 2 (by omega)
      have z2:(Oct.putB r.size 2).size=2:=Oct.putB_size r.size 2 (by omega)
      have HR2:=Hq ha2
      have hadd:∀ W:World,(Op.stringOp .add S (Oct.putB a2 2++Oct.putB r.size 2)).run Tryz.prog W= .ok (.string (S++(Oct.putB a2 2++Oct.putB r.size 2))) W:=fun W=>run_string_add_sum W _ _ (by rw[ByteArray.size_append,z1,z2];omega)
      have hr512:r.size≤512:=by omega
      clear hst ha2
      go_upto_region 12 with(fail)
      clear ha2i
      go_region_held3 (fun w'=>w'.cell? ⟨w.heap.size,3,none⟩=some (.slice (some ⟨b,off,none⟩) rs.length c)∧w'.cell? ⟨b,off+k,none⟩=some (.string r)∧Below w1.heap.size w1 w') (first|assumption|exact⟨d3,hcw,hbw.drew⟩|go_keep) (first|(go_at_call 111;refine(rput_S _ HST.out _ _ (by omega) (by omega) _ (by assumption)).mono ?_;rintro e w2 ⟨rfl,hSS⟩))
      obtain⟨e1,e2,hb2⟩:=hSS
      go_wp2_with fail
      go_roundw
      case rel=>
       refine⟨k+1,a2,_,_,by omega,by go_num,rfl,?_,rfl,?_,rfl,?_,hb2⟩
       ·rw[HSS.out,HR2.out,HA3.out];omega
       ·have q1:(Oct.putB a2 2).data.toList=Oct.putL a2 2:=(Oct.putB_list a2 2 (by omega)).trans (by rw[Oct.word_nat _ (by have:=HR2.out;omega)])
        have q2:(Oct.putB r.size 2).data.toList=Oct.putL r.size 2:=(Oct.putB_list r.size 2 (by omega)).trans (by rw[Oct.word_nat _ (by omega)])
        simp only[ByteArray.data_append,Array.toList_append]
        rw[HSL.out,Pg.slotL,if_neg HE.out,HS.out,← HA3.out,q1,q2,HR2.out]
       ·simp only[ByteArray.data_append,Array.toList_append]
        rw[HBL.out,HB.out]
      case measure=>simp[intOf];omega
    ·obtain rfl:k=rs.length:=by omega
     have HT2:=Hq (List.take_length (l:=rs))
     go_wp2_with fail
     go_meet
     case rel=>
      have h1:=HS.out
      have h2:=HB.out
      rw[HT2.out]at h1 h2
      exact⟨by rw[HA3.out,HT2.out],by rw[← h1],by rw[← h2],hbw⟩
  case rest=>
   obtain⟨rfl,rfl,rfl,hbw⟩:=hcut
   obtain⟨wd,rfl⟩:=ex wc
   obtain⟨S,hS⟩:=ex (⟨(Pg.slotsL 512 rs).toArray⟩:ByteArray)
   obtain⟨B,hB⟩:=ex (⟨(Pg.bodyL rs).toArray⟩:ByteArray)
   obtain⟨at_,hat⟩:=ex (512-Pg.sumSizes rs:Nat)
   rw[← hS,← hB,← hat]
   have hSs:S.size=4*rs.length:=by rw[hS];show(Pg.slotsL 512 rs).toArray.size=_;simp[Pg.slotsL_length]
   have hBs:B.size≤4096:=by rw[hB];show(Pg.bodyL rs).toArray.size≤_;simp[Pg.bodyL_length];omega
   have hx:wd.heap[w.heap.size]? =some (.cells #[x.lsn,x.kind,x.link,.slice A rs.length c] 152 (0,0)):=(hbw.block _ hX).trans HX1.out
   have d0:wd.cell? ⟨w.heap.size,0,none⟩=some (.int .i64 x.lsn):=by rw[cell_of_blk hx];rfl
   have d1:wd.cell? ⟨w.heap.size,1,none⟩=some (.int .i64 x.kind):=by rw[cell_of_blk hx];rfl
   have d2:wd.cell? ⟨w.heap.size,2,none⟩=some (.int .i64 x.link):=by rw[cell_of_blk hx];rfl
   have d3:wd.cell? ⟨w.heap.size,3,none⟩=some (.slice A rs.length c):=by rw[cell_of_blk hx];rfl
   have hst:∀ u v:World,(u.cell? ⟨w.heap.size,0,none⟩=some (.int .i64 x.lsn)∧u.cell? ⟨w.heap.size,1,none⟩=some (.int .i64 x.kind)∧u.cell? ⟨w.heap.size,2,none⟩=some (.int .i64 x.link)∧u.cell? ⟨w.heap.size,3,none⟩=some (.slice A rs.length c)∧Below w1.heap.size w1 u)→Below u.heap.size u v→(v.cell? ⟨w.heap.size,0,none⟩=some (.int .i64 x.lsn)∧v.cell? ⟨w.heap.size,1,none⟩=some (.int .i64 x.kind)∧v.cell? ⟨w.heap.size,2,none⟩=some (.int .i64 x.link)∧v.cell? ⟨w.heap.size,3,none⟩=some (.slice A rs.length c)∧Below w1.heap.size w1 v):=fun u v ⟨c0,c1,c2,c3,c4⟩ hb=>by
    have:=c4.size
    refine⟨?_,?_,?_,?_,andThen c4 hb⟩
    ·rw[hb.cell (p:=⟨w.heap.size,0,none⟩) (by show w.heap.size<_;omega)];exact c0
    ·rw[hb.cell (p:=⟨w.heap.size,1,none⟩) (by show w.heap.size<_;omega)];exact c1
    ·rw[hb.cell (p:=⟨w.heap.size,2,none⟩) (by show w.heap.size<_;omega)];exact c2
    ·rw[hb.cell (p:=⟨w.heap.size,3,none⟩) (by show w.heap.size<_;omega)];exact c3
   have HST:=Hq hst
   have z1:(Oct.putB 0 4).size=4:=Oct.putB_size 0 4 (by omega)
   have z2:(Oct.putB x.lsn 6).size=6:=Oct.putB_size x.lsn 6 (by omega)
   have z3:(Oct.putB x.kind 1).size=1:=Oct.putB_size x.kind 1 (by omega)
   have z4:(Oct.putB 0 1).size=1:=Oct.putB_size 0 1 (by omega)
   have z5:(Oct.putB x.link 3).size=3:=Oct.putB_size x.link 3 (by omega)
   have z6:(Oct.putB rs.length 2).size=2:=Oct.putB_size rs.length 2 (by omega)
   have z7:(Oct.putB at_ 2).size=2:=Oct.putB_size at_ 2 (by omega)
   have HS:=Hq hS
   have HB:=Hq hB
   have HAT:=Hq hat
   have HSs:=Hq hSs
   have hSs2:S.size≤4096:=by omega
   clear hS hB hat hst hx hSs
   go_upto_region 14 with(fail)
   go_cut [7] (fun s7 we=>s7= .string (Oct.putB 0 4++Oct.putB x.lsn 6++Oct.putB x.kind 1++Oct.putB 0 1++Oct.putB x.link 3++Oct.putB rs.length 2++Oct.putB at_ 2)∧Below w1.heap.size w1 we)
   case first=>
    go_region_held3 (fun w'=>w'.cell? ⟨w.heap.size,0,none⟩=some (.int .i64 x.lsn)∧w'.cell? ⟨w.heap.size,1,none⟩=some (.int .i64 x.kind)∧w'.cell? ⟨w.heap.size,2,none⟩=some (.int .i64 x.link)∧w'.cell? ⟨w.heap.size,3,none⟩=some (.slice A rs.length c)∧Below w1.heap.size w1 w') (first|assumption|exact⟨d0,d1,d2,d3,hbw.drew⟩|go_keep) (first|(go_at_call 111;refine(rput_S _ HST.out _ _ (by omega) (by omega) _ (by assumption)).mono ?_;rintro e w2 ⟨rfl,hSS⟩))
    go_wp2_with fail
    go_meet
    case rel=>exact⟨rfl,hSS.2.2.2.2⟩
   case rest=>
    obtain⟨rfl,hbe⟩:=hcut
    obtain⟨F,hF⟩:=ex (Oct.putB 0 4++Oct.putB x.lsn 6++Oct.putB x.kind 1++Oct.putB 0 1++Oct.putB x.link 3++Oct.putB rs.length 2++Oct.putB at_ 2:ByteArray)
    have hFs:F.size=19:=by rw[hF];simp only[ByteArray.size_append,z1,z2,z3,z4,z5,z6,z7]
    rw[← hF]
    have hfit:=HFIT.out
    obtain⟨room,hroom⟩:=ex (512-Pg.sizeN rs:Nat)
    have hri:(at_:Int)-19-(S.size:Int)=(room:Int):=by
     have h1:=HAT.out
     have h2:=HSs.out
     unfold Pg.sizeN at hroom hfit
     omega
    have hr512:room≤512:=by omega
    have hat2:at_≤512:=by have:=HAT.out;omega
    have hmk:=pmake_zeros room (by omega)
    have hcv:=pzeros_back room
    obtain⟨R,hR⟩:=ex (⟨(List.replicate room 0).toArray⟩:ByteArray)
    rw[← hR]at hcv
    have hRs:R.size=room:=by rw[hR];show(List.replicate room (0:UInt8)).toArray.size=_;simp
    have hRs2:R.size≤512:=by omega
    have HF:=Hq hF
    have HR:=Hq hR
    have HRM:=Hq hroom
    clear hF hR hroom hfit hRs z1 z2 z3 z4 z5 z6 z7 d0 d1 d2 d3 hbw
    go_wp2_with fail
    go_ret
    refine⟨ret_str ?_,HW1.out.trans ((hbe.mono (by omega)).trans ((Below.refl _ _).alloc (by have:=hbe.size;omega) _))⟩
    rw[HL.out,Pg.layR,if_neg HFIT.out]
    apply ByteArray.ext
    have e1:F.data.toList=Pg.headL x rs.length (512-Pg.sumSizes rs):=by
     rw[HF.out,Pg.headL]
     simp only[ByteArray.data_append,Array.toList_append]
     obtain⟨y1,y2,y3⟩:=HXS.out
     have q1:(Oct.putB 0 4).data.toList=Oct.putL 0 4:=Oct.putB_list 0 4 (by omega)
     have q4:(Oct.putB 0 1).data.toList=Oct.putL 0 1:=Oct.putB_list 0 1 (by omega)
     have q2:(Oct.putB x.lsn 6).data.toList=Oct.putL x.lsn 6:=(Oct.putB_list x.lsn 6 (by omega)).trans (by rw[Oct.word_nat _ (by omega)])
     have q3:(Oct.putB x.kind 1).data.toList=Oct.putL x.kind 1:=(Oct.putB_list x.kind 1 (by omega)).trans (by rw[Oct.word_nat _ (by omega)])
     have q5:(Oct.putB x.link 3).data.toList=Oct.putL x.link 3:=(Oct.putB_list x.link 3 (by omega)).trans (by rw[Oct.word_nat _ (by omega)])
     have q6:(Oct.putB rs.length 2).data.toList=Oct.putL rs.length 2:=(Oct.putB_list rs.length 2 (by omega)).trans (by rw[Oct.word_nat _ (by omega)])
     have q7:(Oct.putB at_ 2).data.toList=Oct.putL (512-Pg.sumSizes rs) 2:=(Oct.putB_list at_ 2 (by omega)).trans (by rw[Oct.word_nat _ (by omega),HAT.out])
     rw[q1,q2,q3,q4,q5,q6,q7]
    have e2:S.data.toList=Pg.slotsL 512 rs:=by rw[HS.out]
    have e3:B.data.toList=Pg.bodyL rs:=by rw[HB.out]
    have e4:R.data.toList=List.replicate (512-Pg.sizeN rs) 0:=by rw[HR.out,HRM.out]
    apply Array.toList_inj.1
    simp only[ByteArray.data_append,Array.toList_append,e1,e2,e3,e4]
theorem intOf_small (u:Nat)(h:u<281474976710656):Oct.intOf u=(u:Int):=by
 unfold Oct.intOf;rw[if_pos (by omega)]
theorem getN_lt (s:List UInt8)(a k:Nat)(h:k≤6):Oct.getN s a k<281474976710656:=by
 have h1:=Oct.getL_lt ((s.drop a).take k)
 have h2:256^((s.drop a).take k).length≤256^6:=Nat.pow_le_pow_right (by omega) (by rw[List.length_take];omega)
 unfold Oct.getN;omega
theorem prnum_any (s:ByteArray)(a size:Int)(h0:0≤a)(h1:1≤size)(h6:size≤6)(hin:a+size≤s.size)(hm:s.size≤1048576)(w:World):
 Calls Tryz.prog 163 #[s,a,size] w fun e w'=>e= .returned (.int .i64 (Oct.getN s.data.toList a.toNat size.toNat))∧w=w':=by
 obtain⟨a,rfl⟩:=Int.eq_ofNat_of_zero_le h0
 obtain⟨k,rfl⟩:=Int.eq_ofNat_of_zero_le (show 0≤size by omega)
 have HC:=Hq (fun W=>rget_yes s a k (by omega) (by omega) (by omega) (by omega) W)
 rw[intOf_small _ (getN_lt _ _ _ (by omega))]at HC
 go_enter Tryz.func163,Tryz.ntmps163
 go_wp2_with (go_at_call 41;refine(HC.out _).mono ?_;rintro e w' ⟨rfl,rfl⟩)
 go_ret
 exact⟨rfl,rfl⟩
theorem blk4 {w:World}{b:Nat}{T:TypeId}{v0 v1 v2 v3:Value}(h:w.heap[b]? =some (.cells #[v0,v1,v2,v3] T (0,0))):
 w.cell? ⟨b,0,none⟩=some v0∧w.cell? ⟨b,1,none⟩=some v1∧w.cell? ⟨b,2,none⟩=some v2∧w.cell? ⟨b,3,none⟩=some v3∧
 w.frozen? ⟨b,0,none⟩=false∧w.frozen? ⟨b,1,none⟩=false∧w.frozen? ⟨b,2,none⟩=false∧w.frozen? ⟨b,3,none⟩=false:=by
 refine⟨by rw[cell_of_blk h];rfl,by rw[cell_of_blk h];rfl,by rw[cell_of_blk h];rfl,by rw[cell_of_blk h];rfl,?_,?_,?_,?_⟩<;>simp[World.frozen?,h]
theorem blk_new {w w':World}{o:Obj}(hb:Below (w.alloc o).heap.size (w.alloc o) w'):w'.heap[w.heap.size]? =some o:=
 (hb.block _ (by simp)).trans (heap_alloc_new w _)
theorem blk_old {w w':World}{b:Nat}{o:Obj}(h:w.heap[b]? =some o)(hb:Below w.heap.size w w'):w'.heap[b]? =some o:=by
 have hlt:b<w.heap.size:=by
  rcases Nat.lt_or_ge b w.heap.size with h'|h'
  ·exact h'
  ·rw[Array.getElem?_eq_none h']at h;cases h
 rw[hb.block b hlt];exact h
theorem below_past {w w':World}{o:Obj}(hb:Below (w.alloc o).heap.size (w.alloc o) w'):Below w.heap.size w w':=
 ((Below.refl _ _).alloc (Nat.le_refl _) _).trans (hb.mono (by simp))
theorem pinfo_string:(Tryz.prog.info? 9).map (fun i=>(i.zero,i.size,i.bytes))=some (some (.string ⟨#[]⟩),1,16):=by kernel_rfl
theorem ownsRow_below {w w':World}{B:Nat}{e:TypeId}{size n:Nat}{v:Value}{xs:List Value}(h:w.ownsRow B e size v n xs)(hb:Below w.heap.size w w'):w'.ownsRow B e size v n xs:=by
 refine⟨h.1,?_⟩
 rcases h.2 with hz|⟨g,cap,cur,hv,hg,hh,r⟩
 ·exact .inl hz
 ·exact .inr ⟨g,cap,cur,hv,hg,blk_old hh hb,r⟩
theorem blk_set {w:World}{b:Nat}(i:Nat){cs:Array Value}{T:TypeId}{fr:Nat×Nat}(h:w.heap[b]? =some (.cells cs T fr))(v:Value):(w.setCell ⟨b,i,none⟩ v).heap[b]? =some (.cells (cs.setIfInBounds i v) T fr):=by
 rw[setCell_eq_setRow w b i cs T fr v h]
 exact setRow_heap w b _ _ T _ h
theorem ownsRow_set {w:World}{B:Nat}{e:TypeId}{size n:Nat}{v:Value}{xs:List Value}(h:w.ownsRow B e size v n xs)(a:Addr)(u:Value)(ha:a.block<B):(w.setCell a u).ownsRow B e size v n xs:=by
 refine⟨h.1,?_⟩
 rcases h.2 with hz|⟨g,cap,cur,hv,hg,hh,r⟩
 ·exact .inl hz
 ·exact .inr ⟨g,cap,cur,hv,hg,by rw[Below.heap_setCell _ _ _ _ (by omega)];exact hh,r⟩
theorem own_alloc_drew {w:World}{B:Nat}{e:TypeId}{size n:Nat}{v:Value}{xs:List Value}(h:w.ownsRow B e size v n xs)(o:Obj):(w.alloc o).drew.ownsRow B e size v n xs:=
 ownsRow_below h (((Below.refl _ _).alloc (Nat.le_refl _) o).drew)
theorem extract_eq (p:ByteArray)(a l:Nat):p.extract a (a+l)=⟨((p.data.toList.drop a).take l).toArray⟩:=by
 apply ByteArray.ext
 apply Array.ext'
 simp
def OwnCells (B:Nat)(w:World)(A:Option Addr)(c:Nat)(rs:List ByteArray):Prop:=
 0<rs.length→∃ b,A=some ⟨b,0,none⟩∧B≤b∧rs.length≤c∧b<w.heap.size∧∀ j (hj:j<rs.length),w.cell? ⟨b,j,none⟩=some (.string rs[j])
theorem OwnCells.cells {B:Nat}{w:World}{A:Option Addr}{c:Nat}{rs:List ByteArray}(h:OwnCells B w A c rs):Cells w A c rs:=fun h0=>by
 obtain⟨b,hA,hB,hc,hlt,hcell⟩:=h h0
 exact⟨b,0,hA,hc,hlt,fun j hj=>by rw[Nat.zero_add];exact hcell j hj⟩
theorem OwnCells.set {B:Nat}{w:World}{A:Option Addr}{c:Nat}{rs:List ByteArray}(h:OwnCells B w A c rs)(a:Addr)(ha:a.block<B)(u:Value):OwnCells B (w.setCell a u) A c rs:=fun h0=>by
 obtain⟨b,hA,hB,hc,hlt,hcell⟩:=h h0
 refine⟨b,hA,hB,hc,by simpa using hlt,fun j hj=>?_⟩
 rw[← hcell j hj]
 exact World.cell?_of_block (Below.heap_setCell _ _ _ _ (by simp;omega))
theorem OwnCells.mono {B B':Nat}{w:World}{A:Option Addr}{c:Nat}{rs:List ByteArray}(h:OwnCells B w A c rs)(hB:B'≤B):OwnCells B' w A c rs:=fun h0=>by
 obtain⟨b,hA,h1,h2⟩:=h h0
 exact⟨b,hA,by omega,h2⟩
theorem OwnCells.below {B:Nat}{w w':World}{A:Option Addr}{c:Nat}{rs:List ByteArray}(h:OwnCells B w A c rs)(hb:Below w.heap.size w w'):OwnCells B w' A c rs:=fun h0=>by
 obtain⟨b,hA,h1,h2,h3,h4⟩:=h h0
 refine⟨b,hA,h1,h2,Nat.lt_of_lt_of_le h3 hb.size,fun j hj=>?_⟩
 rw[hb.cell (p:=⟨b,j,none⟩) h3];exact h4 j hj
theorem own_cells {w:World}{B:Nat}{e:TypeId}{A:Option Addr}{k c:Nat}{rs:List ByteArray}(h:w.ownsRow B e 1 (.slice A k c) k (rs.map Value.string))(hl:rs.length=k):OwnCells B w A c rs:=fun h0=>by
 rcases h.2 with⟨h9,-⟩|⟨g,cap,cur,hv,hg,hh,h1,h2,h3,h4⟩
 ·simp at h9;omega
 ·have hv2:A=some ⟨g,0,none⟩∧c=cap:=by simpa using hv
  obtain⟨rfl,rfl⟩:=hv2
  refine⟨g,rfl,hg,by omega,(Array.getElem?_eq_some_iff.1 hh).1,fun j hj=>?_⟩
  have h5:cur.toList[j]? =some (.string rs[j]):=by
   have h6:(rs.map Value.string)[j]? =some (.string rs[j]):=by simp[hj]
   rw[← h4,List.getElem?_take_of_lt (by omega)]at h6
   exact h6
  rw[cell_of_blk hh]
  simpa using h5
abbrev leafV (x:Pg.Leaf)(A:Option Addr)(c:Nat):Value:=.agg #[x.lsn,x.kind,x.link,.slice A x.recs.length c]
abbrev zeroV:Value:=.agg #[(),(),(),"s"]
abbrev Held (X:Nat)(x:Pg.Leaf)(A:Option Addr)(c:Nat)(w0 u:World):Prop:=
 u.cell? ⟨X,0,none⟩=some (.int .i64 x.lsn)∧u.cell? ⟨X,1,none⟩=some (.int .i64 x.kind)∧u.cell? ⟨X,2,none⟩=some (.int .i64 x.link)∧u.cell? ⟨X,3,none⟩=some (.slice A x.recs.length c)∧Cells u A c x.recs∧X<u.heap.size∧Below w0.heap.size w0 u
theorem Held.step {X:Nat}{x:Pg.Leaf}{A:Option Addr}{c:Nat}{w0 u v:World}(h:Held X x A c w0 u)(hb:Below u.heap.size u v):Held X x A c w0 v:=by
 obtain⟨c0,c1,c2,c3,h4,h5,h6⟩:=h
 have:=hb.size
 refine⟨?_,?_,?_,?_,h4.below hb,by omega,andThen h6 hb⟩
 ·rw[hb.cell (p:=⟨X,0,none⟩) h5];exact c0
 ·rw[hb.cell (p:=⟨X,1,none⟩) h5];exact c1
 ·rw[hb.cell (p:=⟨X,2,none⟩) h5];exact c2
 ·rw[hb.cell (p:=⟨X,3,none⟩) h5];exact c3
theorem Held.drew {X:Nat}{x:Pg.Leaf}{A:Option Addr}{c:Nat}{w0 u:World}(h:Held X x A c w0 u):Held X x A c w0 u.drew:=h.step (Below.refl _ _).drew
def GivesR (r:Option Pg.Leaf)(w:World)(e:Ending)(w':World):Prop:=
 (match r with
   |some x=>∃ A c,e= .returned (.tuple #[leafV x A c,true])∧OwnCells w.heap.size w' A c x.recs
   |none=>∃ (x:Pg.Leaf) (A:Option Addr) (c:Nat),e= .returned (.tuple #[leafV x A c,false]))∧Below w.heap.size w w'
theorem rparts_any (p:ByteArray)(_hm:p.size≤140737488355328)(w:World):
 Calls Tryz.prog 101 #[p] w (GivesR (Pg.right p.data.toList) w):=by
 by_cases h512:p.size=512
 ·have HL:=Hq (show p.data.toList.length=512 by have h9:p.data.toList.length=p.size:=(by simp);omega)
  obtain⟨lsn,hlsn⟩:=ex (Oct.getN p.data.toList 4 6)
  obtain⟨kind,hkind⟩:=ex (Oct.getN p.data.toList 10 1)
  obtain⟨link,hlink⟩:=ex (Oct.getN p.data.toList 12 3)
  obtain⟨n,hn⟩:=ex (Oct.getN p.data.toList 15 2)
  have HN1:=Hq (fun W=>prnum_any p 4 6 (by omega) (by omega) (by omega) (by omega) (by omega) W)
  have HN2:=Hq (fun W=>prnum_any p 10 1 (by omega) (by omega) (by omega) (by omega) (by omega) W)
  have HN3:=Hq (fun W=>prnum_any p 12 3 (by omega) (by omega) (by omega) (by omega) (by omega) W)
  have HN4:=Hq (fun W=>prnum_any p 15 2 (by omega) (by omega) (by omega) (by omega) (by omega) W)
  have hn16:n<65536:=by have:=Pg.getN_pow p.data.toList 15 2;omega
  rw[show((4:Int).toNat)=4 from rfl,show((6:Int).toNat)=6 from rfl,← hlsn]at HN1
  rw[show((10:Int).toNat)=10 from rfl,show((1:Int).toNat)=1 from rfl,← hkind]at HN2
  rw[show((12:Int).toNat)=12 from rfl,show((3:Int).toNat)=3 from rfl,← hlink]at HN3
  rw[show((15:Int).toNat)=15 from rfl,show((2:Int).toNat)=2 from rfl,← hn]at HN4
  have HQ1:=Hq hlsn
  have HQ2:=Hq hkind
  have HQ3:=Hq hlink
  have HQ4:=Hq hn
  clear hlsn hkind hlink hn
  by_cases hbad:4<kind∨123<n
  ·have HR:=Hq (show Pg.right p.data.toList=none from Pg.right_none_of (by rw[Pg.rd,if_pos (by rw[← HQ2.out,← HQ4.out];exact .inr hbad)]))
   have hb1:4<kind∨(kind≤4∧512<19+4*(n:Int)):=by omega
   clear hbad
   rcases hb1 with h1|⟨h1,h2⟩
   all_goals
    go_enter Tryz.func101,Tryz.ntmps101
    go_wp2_with (first|(go_at_call 163;(with_reducible refine(HN1.out _).mono ?_);rintro e w1 ⟨rfl,rfl⟩)|(go_at_call 163;(with_reducible refine(HN2.out _).mono ?_);rintro e w2 ⟨rfl,rfl⟩)|(go_at_call 163;(with_reducible refine(HN3.out _).mono ?_);rintro e w3 ⟨rfl,rfl⟩)|(go_at_call 163;(with_reducible refine(HN4.out _).mono ?_);rintro e w4 ⟨rfl,rfl⟩))
    refine bodyPost_ret (v:=.tuple #[zeroV,false]) (by simp[results,Tryz.results101,go_sem]) rfl ?_
    unfold GivesR
    rw[HR.out]
    refine⟨⟨Pg.zero,none,0,rfl⟩,?_⟩
    repeat (first|exact Below.refl _ _|refine Below.setCell ?_ (by simp) _|refine Below.alloc ?_ (by simp) _)
  ·obtain⟨hk4,hn123⟩:kind≤4∧n≤123:=by omega
   have HRD:=Hq (show Pg.rd p.data.toList=(Pg.recsOf p.data.toList n).map fun rs=>⟨lsn,kind,link,rs⟩ by
    rw[Pg.rd,if_neg (by rw[← HQ2.out,← HQ4.out];have:=HL.out;omega),← HQ1.out,← HQ2.out,← HQ3.out,← HQ4.out])
   clear hbad
   have hn512:19+4*(n:Int)≤512:=by omega
   go_enter Tryz.func101,Tryz.ntmps101
   go_upto_block 0 with(first|(go_at_call 163;(with_reducible refine(HN1.out _).mono ?_);rintro e w1 ⟨rfl,rfl⟩)|(go_at_call 163;(with_reducible refine(HN2.out _).mono ?_);rintro e w2 ⟨rfl,rfl⟩)|(go_at_call 163;(with_reducible refine(HN3.out _).mono ?_);rintro e w3 ⟨rfl,rfl⟩)|(go_at_call 163;(with_reducible refine(HN4.out _).mono ?_);rintro e w4 ⟨rfl,rfl⟩))
   have hX:=heap_alloc_new (w.alloc (.cells #[(),(),(),"s"] 152)) (.cells #[lsn,kind,link,"s"] 152)
   have hZ:=(Below.heap_alloc (w.alloc (.cells #[(),(),(),"s"] 152)) (.cells #[lsn,kind,link,"s"] 152) w.heap.size (by simp)).trans (heap_alloc_new w _)
   rw[show(w.alloc (.cells #[(),(),(),"s"] 152)).heap.size=w.heap.size+1 by simp]at hX
   have hbw:Below w.heap.size w ((w.alloc (.cells #[(),(),(),"s"] 152)).alloc (.cells #[lsn,kind,link,"s"] 152)):=((Below.refl _ _).alloc (Nat.le_refl _) _).alloc (by simp) _
   generalize hXe:w.heap.size+1=X at hX ⊢
   have HX:=Hq hX
   have HZ:=Hq hZ
   have HW:=Hq hbw
   clear hX hZ hbw
   go_wp2_with fail
   go_loopw [6] (fun i wr=>∃ (k:Nat) (rs:List ByteArray) (A:Option Addr) (c:Nat),k≤n∧i= .int .i64 k∧Pg.recsOf p.data.toList k=some rs∧wr.heap[X]? =some (.cells #[lsn,kind,link,.slice A k c] 152 (0,0))∧wr.heap[w.heap.size]? =some (.cells #[(),(),(),"s"] 152 (0,0))∧wr.ownsRow (w.heap.size+2) 9 1 (.slice A k c) k (rs.map Value.string)∧Below w.heap.size w wr∧w.heap.size+2≤wr.heap.size) (fun i _=>n-(intOf i).toNat)
   case atStart=>exact⟨0,[],none,0,Nat.zero_le _,rfl,rfl,HX.out,HZ.out,⟨rfl,.inl ⟨rfl,rfl⟩⟩,HW.out,by simp⟩
   case round=>
    obtain⟨k,rs,A,c,hk,rfl,hrs,hX,hZ,hown,hbw,hge⟩:=hrel
    have hrl:=Pg.recsOf_length _ _ _ hrs
    have HRS:=Hq hrs
    have HX2:=Hq hX
    have HZ2:=Hq hZ
    have HO:=Hq hown
    have HW2:=Hq hbw
    have HRL:=Hq hrl
    clear hrs hX hZ hown hbw hrl
    by_cases hkn:k<n
    ·obtain⟨at_,hat⟩:=ex (Oct.getN p.data.toList (19+4*k) 2)
     obtain⟨long,hlong⟩:=ex (Oct.getN p.data.toList (21+4*k) 2)
     have hal:at_<65536:=by
      have h1:=Oct.getL_lt ((p.data.toList.drop (19+4*k)).take 2)
      have h2:256^((p.data.toList.drop (19+4*k)).take 2).length≤256^2:=Nat.pow_le_pow_right (by omega) (by rw[List.length_take];omega)
      rw[hat];unfold Oct.getN;omega
     have hll:long<65536:=by
      have h1:=Oct.getL_lt ((p.data.toList.drop (21+4*k)).take 2)
      have h2:256^((p.data.toList.drop (21+4*k)).take 2).length≤256^2:=Nat.pow_le_pow_right (by omega) (by rw[List.length_take];omega)
      rw[hlong];unfold Oct.getN;omega
     have HA:=Hq (fun W=>prnum_any p (19+4*(k:Int)) 2 (by omega) (by omega) (by omega) (by omega) (by omega) W)
     have HB:=Hq (fun W=>prnum_any p (19+4*(k:Int)+2) 2 (by omega) (by omega) (by omega) (by omega) (by omega) W)
     rw[show(19+4*(k:Int)).toNat=19+4*k by omega,show((2:Int).toNat)=2 from rfl,← hat]at HA
     rw[show(19+4*(k:Int)+2).toNat=21+4*k by omega,show((2:Int).toNat)=2 from rfl,← hlong]at HB
     have HAT:=Hq hat
     have HLO:=Hq hlong
     clear hat hlong
     by_cases hbad:400<long∨512<at_+long
     ·have HN:=Hq (show Pg.right p.data.toList=none from Pg.right_none_of (by
       have h1:Pg.recsOf p.data.toList (k+1)=none:=by
        simp only[Pg.recsOf,HRS.out]
        rw[if_pos (by rw[← HAT.out,← HLO.out];exact hbad)]
       have h2:=Pg.recsOf_none _ h1 (n-(k+1))
       rw[show k+1+(n-(k+1))=n by omega]at h2
       rw[HRD.out,h2];rfl))
      have hb1:512<(at_:Int)+(long:Int)∨((at_:Int)+(long:Int)≤512∧400<long):=by omega
      clear hbad
      rcases hb1 with h1|⟨h1,h2⟩
      all_goals
       obtain⟨c0,c1,c2,c3,f0,f1,f2,f3⟩:=blk4 HZ2.out
       go_wp2_with (first|(go_at_call 163;(with_reducible refine(HA.out _).mono ?_);rintro e w5 ⟨rfl,rfl⟩)|(go_at_call 163;(with_reducible refine(HB.out _).mono ?_);rintro e wr ⟨rfl,rfl⟩))
       refine bodyPost_ret (v:=.tuple #[zeroV,false]) (by simp[results,Tryz.results101,go_sem,c0,c1,c2,c3]) rfl ?_
       unfold GivesR
       rw[HN.out]
       refine⟨⟨Pg.zero,none,0,rfl⟩,?_⟩
       repeat (first|exact HW2.out|refine Below.setCell ?_ (by simp) _)
     ·obtain⟨hl4,hal5⟩:long≤400∧at_+long≤512:=by omega
      clear hbad
      go_upto_region 13 with(first|(go_at_call 163;(with_reducible refine(HA.out _).mono ?_);rintro e w5 ⟨rfl,rfl⟩)|(go_at_call 163;(with_reducible refine(HB.out _).mono ?_);rintro e wr ⟨rfl,rfl⟩))
      obtain⟨i0,hi0,hz0,hz1,hz2⟩:=info_parts pinfo_string
      have hX6:=HX2.out
      have hZ6:=HZ2.out
      have hown6:wr.ownsRow (w.heap.size+2) 9 1 (.slice A k c) k (rs.map Value.string):=HO.out
      have hW6:Below w.heap.size w wr:=HW2.out
      obtain⟨x0,x1,x2,x3,g0,g1,g2,g3⟩:=blk4 hX6
      have hp1:(0:Int)≤(at_:Int):=by omega
      have hp2:(at_:Int)≤(at_:Int)+(long:Int):=by omega
      have hp3:(at_:Int)+(long:Int)≤512:=by omega
      have hp4:IntKind.i64.wrap ((at_:Int)+(long:Int))=(at_:Int)+(long:Int):=IntWalk.i64_in _ (by omega)
      have hp5:((at_:Int)+(long:Int)).toNat=at_+long:=by omega
      have hp6:0≤(at_:Int)+(long:Int):=by omega
      have hp7:at_≤at_+long:=by omega
      have hp8:at_+long≤p.size:=by omega
      have HF:=Hq (show ∀ w7:World,((wr.alloc (.cells #[.string (p.extract at_ (at_+long))] 9)).drew).grownBy w7 (Value.slice A k c).ownBlock→∀ (b:Nat) (o:Obj),b<(w.heap.size+2)→wr.heap[b]? =some o→w7.heap[b]? =some o by
       intro w7 hg b o hb ho
       rw[hg.block b (by simp;omega) (fun e9=>absurd (hown6.lt b e9.symm).1 (by omega))]
       exact(Below.heap_alloc wr _ b (by omega)).trans ho)
      obtain⟨-,-,-,z3,-⟩:=blk4 ((Below.heap_alloc wr (.cells #[.string (p.extract at_ (at_+long))] 9) X (by omega)).trans hX6)
      go_region_law? (refine step_append_lies _ (by rfl) _ _ _ (by rfl) (w.heap.size+2) 9 i0 (.string ⟨#[]⟩) 1 16 Tryz.underlying27 hi0 hz0 hz1 hz2 rfl (by omega) (.slice A k c) k (rs.map Value.string) (by rfl) (own_alloc_drew hown6 _) ⟨wr.heap.size,0,none⟩ 1 1 [.string (p.extract at_ (at_+long))] (by rfl) (by rfl) (World.news_of_block (cs:=#[.string (p.extract at_ (at_+long))]) (t:=9) (fr:=(0,0)) (heap_alloc_new wr _)) (by simp[Value.oneCell']) (by omega) (by simp[maxLen];omega) (by omega) (by simp;omega) (wr.heap.size+1) (by simp) ?_;intro gg cap w7 hown7 hgrow hat7 hlt7;obtain⟨y0,y1,y2,y3,k0,k1,k2,k3⟩:=blk4 (HF.out w7 hgrow X _ (show X<w.heap.size+2 by omega) hX6))
      all_goals
       have hX7:=HF.out w7 hgrow X _ (show X<w.heap.size+2 by omega) hX6
       have hZ7:=HF.out w7 hgrow w.heap.size _ (by omega) hZ6
       have hb7:Below w.heap.size w w7:=((hW6.alloc (by omega) _).drew).grown hgrow (by simp;omega) (fun k9 e9=>by have:=(hown6.lt k9 e9).1;omega)
       have hs7:wr.heap.size+1≤w7.heap.size:=by have:=hgrow.size;simp at this;omega
       go_wp2_with fail
       go_roundw
       case rel=>
        refine⟨k+1,rs++[p.extract at_ (at_+long)],some ⟨gg,0,none⟩,cap,by omega,by go_num,?_,?_,?_,?_,?_,?_⟩
        ·simp only[Pg.recsOf,HRS.out]
         rw[if_neg (by rw[← HAT.out,← HLO.out];omega),← HAT.out,← HLO.out]
         rw[extract_eq]
        ·have:=blk_set 3 hX7 (.slice (some ⟨gg,0,none⟩) (k+1) cap)
         simpa using this
        ·rw[Below.heap_setCell _ _ _ _ (by simp;omega)];exact hZ7
        ·have:=ownsRow_set hown7 ⟨X,3,none⟩ (.slice (some ⟨gg,0,none⟩) (k+1) cap) (show X<w.heap.size+2 by omega)
         simpa using this
        ·exact hb7.setCell (by simp;omega) _
        ·simp;omega
       case measure=>simp[intOf];omega
    ·obtain rfl:k=n:=by omega
     have hlen:=HRL.out
     subst hlen
     obtain⟨x0,x1,x2,x3,-⟩:=blk4 HX2.out
     obtain⟨c0,c1,c2,c3,f0,f1,f2,f3⟩:=blk4 HZ2.out
     have hne:X≠w.heap.size:=by omega
     have HRX:=Hq (show Pg.rd p.data.toList=some ⟨lsn,kind,link,rs⟩ by rw[HRD.out,HRS.out];rfl)
     have HF:=Hq (Pg.rd_fine HRX.out).1
     have hcl:=own_cells HO.out rfl
     have HLAY:=Hq (fun W hW=>rlay_any ⟨lsn,kind,link,rs⟩ A c HF.out.small (by have:=HF.out.sizeN;omega) W hW)
     go_upto_region 15 with(first|(go_at_call 102;(with_reducible refine(HLAY.out _ hcl.cells).mono ?_);rintro e w5 ⟨rfl,hb5⟩))
     obtain⟨x0,x1,x2,x3,-⟩:=blk4 (blk_old HX2.out hb5)
     obtain⟨c0,c1,c2,c3,f0,f1,f2,f3⟩:=blk4 (blk_old HZ2.out hb5)
     have hbw6:=andThen HW2.out hb5
     have hcl6:=hcl.below hb5
     clear hcl hb5
     have HC2:=Hq hcl6
     have hqs:(⟨(Pg.layL ⟨lsn,kind,link,rs⟩).toArray⟩:ByteArray).size=(Pg.layL ⟨lsn,kind,link,rs⟩).length:=by simp[ByteArray.size]
     have hql:(⟨(Pg.layL ⟨lsn,kind,link,rs⟩).toArray⟩:ByteArray).data.toList=Pg.layL ⟨lsn,kind,link,rs⟩:=rfl
     generalize (⟨(Pg.layL ⟨lsn,kind,link,rs⟩).toArray⟩:ByteArray)=q at hqs hql ⊢
     rcases Pg.layL_cases ⟨lsn,kind,link,rs⟩with h0|⟨h0,h1⟩
     ·have hq0:q.size=0:=by rw[hqs,h0];rfl
      have HR:=Hq (show Pg.right p.data.toList=none by
       rw[Pg.right_of HRX.out,if_neg]
       rw[decide_eq_true_iff,h0]
       intro h9
       have:=congrArg List.length h9
       rw[List.length_append,Oct.putL_length]at this
       simp at this
       omega)
      clear hqs hql h0
      go_region
      all_goals
       go_wp2_with fail
       refine bodyPost_ret (v:=.tuple #[leafV ⟨lsn,kind,link,rs⟩ A c,false]) (by simp[results,Tryz.results101,go_sem,c0,c1,c2,c3]) rfl ?_
       unfold GivesR
       rw[HR.out]
       refine⟨⟨⟨lsn,kind,link,rs⟩,A,c,rfl⟩,?_⟩
       repeat (first|exact hbw6|refine Below.drew ?_|refine Below.setCell ?_ (by simp) _)
     ·have hq0:q.size=512:=by rw[hqs,h0]
      have hcmp:((q.extract 4 512).toList==(p.extract 4 512).toList)=decide (Pg.layL ⟨lsn,kind,link,rs⟩=Oct.putL 0 4++p.data.toList.drop 4):=by
       rw[ByteArray.toList_eq,ByteArray.toList_eq,show 512=4+508 from rfl,extract_eq,extract_eq]
       have e1:(q.data.toList.drop 4).take 508=q.data.toList.drop 4:=List.take_of_length_le (by rw[hql,List.length_drop,h0];omega)
       have e2:(p.data.toList.drop 4).take 508=p.data.toList.drop 4:=List.take_of_length_le (by rw[List.length_drop,HL.out];omega)
       rw[e1,e2,hql,Bool.beq_eq_decide_eq]
       exact decide_eq_decide.2 (h1 _).symm
      have HR:=Hq (Pg.right_of HRX.out)
      generalize decide (Pg.layL ⟨lsn,kind,link,rs⟩=Oct.putL 0 4++p.data.toList.drop 4)=b at HR hcmp
      have hq4:4≤q.size:=by omega
      have hp4:4≤p.size:=by omega
      clear hqs hql h0 h1
      go_region
      all_goals
       go_wp2_with fail
       refine bodyPost_ret (v:=.tuple #[leafV ⟨lsn,kind,link,rs⟩ A c,b]) (by simp[results,Tryz.results101,go_sem,c0,c1,c2,c3]) rfl ?_
       unfold GivesR
       rw[HR.out]
       refine⟨?_,?_⟩
       ·cases b
        ·exact⟨⟨lsn,kind,link,rs⟩,A,c,rfl⟩
        ·refine⟨A,c,rfl,?_⟩
         refine OwnCells.mono (B:=w.heap.size+2) ?_ (by omega)
         repeat (first|exact HC2.out|exact HC2.out.below (Below.refl _ _).drew|refine OwnCells.set ?_ _ (by simp) _)
       repeat (first|exact hbw6|refine Below.drew ?_|refine Below.setCell ?_ (by simp) _)
 ·have hne:((p.size:Int)==512)=false:=by simp;omega
  have HR:=Hq (show Pg.right p.data.toList=none from Pg.right_none_of (by
   rw[Pg.rd,if_pos (.inl (by have h9:p.data.toList.length=p.size:=(by simp);omega))]))
  clear h512
  go_enter Tryz.func101,Tryz.ntmps101
  go_wp2_with fail
  refine bodyPost_ret (v:=.tuple #[zeroV,false]) (by simp[results,Tryz.results101,go_sem]) rfl ?_
  unfold GivesR
  rw[HR.out]
  exact⟨⟨Pg.zero,none,0,rfl⟩,(Below.refl _ _).alloc (Nat.le_refl _) _⟩
abbrev isPg (p:ByteArray):Bool:=(Pg.right p.data.toList).isSome
abbrev leafP (p:ByteArray):Pg.Leaf:=Pg.leafOf p.data.toList
theorem rparts_leaf (p:ByteArray)(hm:p.size≤140737488355328)(w:World):
 Calls Tryz.prog 101 #[p] w fun e w'=>∃ x A c,e= .returned (.tuple #[leafV x A c,.bool (isPg p)])∧(isPg p=true→x=leafP p∧OwnCells w.heap.size w' A c (leafP p).recs)∧Below w.heap.size w w':=by
 refine(rparts_any p hm w).mono ?_
 rintro e w' ⟨h,hb⟩
 unfold leafP isPg Pg.leafOf
 revert h
 cases Pg.right p.data.toList with
 |none=>rintro⟨x,A,c,rfl⟩;exact⟨x,A,c,rfl,(fun h=>by cases h),hb⟩
 |some x=>rintro⟨A,c,rfl,h⟩;exact⟨x,A,c,rfl,fun _=>⟨rfl,h⟩,hb⟩
theorem leafP_of_not {p:ByteArray}(h:isPg p=false):leafP p=Pg.zero:=by
 unfold isPg at h;unfold leafP Pg.leafOf
 revert h
 cases Pg.right p.data.toList with
 |none=>intro _;rfl
 |some x=>intro h;cases h
theorem prright_any (p:ByteArray)(hm:p.size≤140737488355328)(w:World):
 Calls Tryz.prog 151 #[p] w fun e w'=>e= .returned (.bool (isPg p))∧Below w.heap.size w w':=by
 have HT:=Hq (fun W=>rparts_leaf p hm W)
 generalize isPg p=b at HT ⊢
 generalize leafP p=y at HT
 go_enter Tryz.func151,Tryz.ntmps151
 go_wp2_with (go_at_call 101;refine(HT.out _).mono ?_;rintro e w1 ⟨x,A,c,rfl,hcl,hb1⟩)
 go_ret
 exact⟨rfl,by repeat (first|exact hb1|refine Below.alloc ?_ (by first|exact hb1.size|simp) _|refine Below.setCell ?_ (by first|exact hb1.size|simp) _)⟩
theorem rpart_any (p:ByteArray)(hm:p.size≤140737488355328)(w:World):
 Calls Tryz.prog 192 #[p] w fun e w'=>∃ A c,e= .returned (leafV (leafP p) A c)∧OwnCells w.heap.size w' A c (leafP p).recs∧Below w.heap.size w w':=by
 have HT:=Hq (fun W=>rparts_leaf p hm W)
 cases hb:isPg p with
 |false=>
  rw[leafP_of_not hb]
  rw[hb]at HT
  generalize leafP p=y at HT
  go_enter Tryz.func192,Tryz.ntmps192
  go_wp2_with (go_at_call 101;refine(HT.out _).mono ?_;rintro e w1 ⟨x,A,c,rfl,-,hb1⟩;have hlt:w.heap.size<w1.heap.size:=(by have:=hb1.size;simp at this;omega);obtain⟨c0,c1,c2,c3,f0,f1,f2,f3⟩:=blk4 (blk_new hb1))
  have hbw:=below_past hb1
  refine bodyPost_ret (v:=zeroV) (by simp[results,Tryz.results192,go_sem,c0,c1,c2,c3,hlt]) rfl ?_
  refine⟨none,0,rfl,fun h0=>by simp[Pg.zero]at h0,?_⟩
  repeat (first|exact hbw|refine Below.alloc ?_ (by simp;exact Nat.le_of_lt hlt) _|refine Below.setCell ?_ (by simp) _)
 |true=>
  rw[hb]at HT
  generalize leafP p=y at HT ⊢
  go_enter Tryz.func192,Tryz.ntmps192
  go_wp2_with (go_at_call 101;refine(HT.out _).mono ?_;rintro e w1 ⟨x,A,c,rfl,hcl,hb1⟩;obtain⟨rfl,hcl⟩:=hcl rfl;have hne:w1.heap.size≠w.heap.size:=(by have:=hb1.size;simp at this;omega);have hlt:w.heap.size<w1.heap.size:=(by have:=hb1.size;simp at this;omega);obtain⟨c0,c1,c2,c3,f0,f1,f2,f3⟩:=blk4 (blk_new hb1))
  have hbw:=below_past hb1
  refine bodyPost_ret (v:=leafV x A c) (by simp[results,Tryz.results192,go_sem,c0,c1,c2,c3,hlt]) rfl ?_
  refine⟨A,c,rfl,?_,?_⟩
  ·refine OwnCells.mono (B:=w.heap.size+1) ?_ (by omega)
   refine OwnCells.below ?_ ((Below.refl _ _).alloc (Nat.le_refl _) _)
   repeat (first|exact(show OwnCells (w.heap.size+1) w1 A c x.recs by simpa using hcl)|refine OwnCells.set ?_ _ (by simp) _)
  ·repeat (first|exact hbw|refine Below.alloc ?_ (by simp;exact Nat.le_of_lt hlt) _|refine Below.setCell ?_ (by simp) _)
theorem ref_field0 (a b l v:Value)(W:World):(Instr.field 152 (.agg #[a,b,l,v]) 0).run Tryz.prog W= .ok a W:=by kernel_rfl
theorem rlsn_any (p:ByteArray)(hm:p.size≤140737488355328)(w:World):
 Calls Tryz.prog 148 #[p] w fun e w'=>e= .returned (.int .i64 ((leafP p).lsn:Nat))∧Below w.heap.size w w':=by
 have hfd:∀ (A:Option Addr) (c:Nat) (W:World),(Instr.field 152 (leafV (leafP p) A c) 0).run Tryz.prog W= .ok _ W:=fun _ _ W=>ref_field0 _ _ _ _ W
 have HT:=Hq (fun W=>rpart_any p hm W)
 generalize leafP p=x at HT hfd ⊢
 go_enter Tryz.func148,Tryz.ntmps148
 go_wp2_with (go_at_call 192;refine(HT.out _).mono ?_;rintro e w1 ⟨A,c,rfl,hcl,hb1⟩)
 go_ret
 exact⟨rfl,by repeat (first|exact hb1|refine Below.alloc ?_ (by first|exact hb1.size|simp) _|refine Below.setCell ?_ (by first|exact hb1.size|simp) _)⟩
theorem below_past_alloc {w w':World}{o:Obj}(hb:Below w.heap.size w w'):Below w.heap.size w (w'.alloc o):=hb.alloc hb.size o
theorem bytes_nil {r:ByteArray}(h:r.size=0):r=⟨#[]⟩:=by
 apply ByteArray.ext
 exact Array.eq_empty_of_size_eq_zero h
theorem rget_any_rec (p:ByteArray)(i:Int)(hm:p.size≤140737488355328)(w:World):
 Calls Tryz.prog 152 #[p,i] w fun e w'=>e= .returned (.tuple #[.string (Pg.slotAt (leafP p).recs i),.bool (!decide ((Pg.slotAt (leafP p).recs i).size=0))])∧Below w.heap.size w w':=by
 have HT:=Hq (fun W=>rpart_any p hm W)
 generalize leafP p=x at HT ⊢
 by_cases h1:i<0
 ·rw[Pg.slotAt_neg h1]
  go_enter Tryz.func152,Tryz.ntmps152
  go_wp2_with (go_at_call 192;refine(HT.out _).mono ?_;rintro e w1 ⟨A,c,rfl,hcl,hb1⟩)
  refine bodyPost_ret (v:=.tuple #["",false]) (by simp[results,Tryz.results152,go_sem]) rfl ?_
  exact⟨rfl,below_past_alloc hb1⟩
 ·by_cases h2:(x.recs.length:Int)≤i
  ·rw[Pg.slotAt_past h2]
   go_enter Tryz.func152,Tryz.ntmps152
   go_wp2_with (go_at_call 192;refine(HT.out _).mono ?_;rintro e w1 ⟨A,c,rfl,hcl,hb1⟩)
   refine bodyPost_ret (v:=.tuple #["",false]) (by simp[results,Tryz.results152,go_sem]) rfl ?_
   exact⟨rfl,below_past_alloc hb1⟩
  ·obtain⟨k,rfl⟩:=Int.eq_ofNat_of_zero_le (show 0≤i by omega)
   have hk:k<x.recs.length:=by omega
   rw[Pg.slotAt_in hk]
   have h3:(k:Int)<(x.recs.length:Int):=by omega
   have h4:(0:Int)≤(k:Int):=by omega
   clear h1 h2
   obtain⟨r,hr⟩:=ex (x.recs[k])
   rw[← hr]
   have HR:=Hq hr
   clear hr
   have hie:r.toList.isEmpty=decide (r.size=0):=empty_iff r
   by_cases he:r.size=0
   ·rw[decide_eq_true he]at hie ⊢
    rw[bytes_nil he]at hie HR ⊢
    clear he
    go_enter Tryz.func152,Tryz.ntmps152
    go_wp2_with (go_at_call 192;refine(HT.out _).mono ?_;rintro e w1 ⟨A,c,rfl,hcl,hb1⟩;obtain⟨b,off,rfl,hc,hbl,hcell⟩:=hcl.cells.at_ hk;rw[← HR.out]at hcell)
    refine bodyPost_ret (v:=.tuple #["",false]) (by simp[results,Tryz.results152,go_sem]) rfl ?_
    exact⟨rfl,below_past_alloc hb1⟩
   ·rw[decide_eq_false he]at hie ⊢
    clear he
    go_enter Tryz.func152,Tryz.ntmps152
    go_wp2_with (go_at_call 192;refine(HT.out _).mono ?_;rintro e w1 ⟨A,c,rfl,hcl,hb1⟩;obtain⟨b,off,rfl,hc,hbl,hcell⟩:=hcl.cells.at_ hk;rw[← HR.out]at hcell)
    refine bodyPost_ret (v:=.tuple #[r,true]) (by simp[results,Tryz.results152,go_sem]) rfl ?_
    exact⟨rfl,below_past_alloc hb1⟩
theorem rmay_any (r:ByteArray)(w:World):
 Calls Tryz.prog 193 #[r] w fun e w'=>e= .returned (.bool (decide (1≤r.size∧r.size≤400)))∧w=w':=by
 by_cases h1:1≤r.size
 ·by_cases h2:r.size≤400
  ·rw[decide_eq_true ⟨h1,h2⟩]
   have h3:(1:Int)≤(r.size:Int):=by omega
   have h4:(r.size:Int)≤400:=by omega
   go_enter Tryz.func193,Tryz.ntmps193
   go_wp2_with fail
   go_ret
   exact⟨by simp,rfl⟩
  ·rw[decide_eq_false (fun h=>h2 h.2)]
   have h3:(1:Int)≤(r.size:Int):=by omega
   have h4:(400:Int)<(r.size:Int):=by omega
   go_enter Tryz.func193,Tryz.ntmps193
   go_wp2_with fail
   go_ret
   exact⟨by simp[Int.not_le.2 h4],rfl⟩
 ·rw[decide_eq_false (fun h=>h1 h.1)]
  have h3:(r.size:Int)<1:=by omega
  go_enter Tryz.func193,Tryz.ntmps193
  go_wp2_with fail
  go_ret
  exact⟨by simp,rfl⟩
def newB (n:Int):ByteArray:=if n<0∨4<n then⟨#[]⟩else⟨(Pg.layL ⟨0,n.toNat,0,[]⟩).toArray⟩
theorem rnew_any (n:Int)(w:World):
 Calls Tryz.prog 146 #[n] w fun e w'=>e= .returned (.string (newB n))∧Below w.heap.size w w':=by
 by_cases h1:n<0
 ·rw[show newB n=⟨#[]⟩from if_pos (.inl h1)]
  go_enter Tryz.func146,Tryz.ntmps146
  go_wp2_with fail
  go_ret
  exact⟨rfl,Below.refl _ _⟩
 ·by_cases h2:4<n
  ·rw[show newB n=⟨#[]⟩from if_pos (.inr h2)]
   go_enter Tryz.func146,Tryz.ntmps146
   go_wp2_with fail
   go_ret
   exact⟨rfl,Below.refl _ _⟩
  ·obtain⟨k,rfl⟩:=Int.eq_ofNat_of_zero_le (show 0≤n by omega)
   have HM:=Hq (fun W=>rlay_any ⟨0,k,0,[]⟩ none 0 ⟨(by show 0<281474976710656;omega),(by show k≤4;omega),(by show 0<16777216;omega)⟩ (by show 19≤1099511627776;omega) W (fun h0=>by simp at h0))
   rw[show newB (k:Int)=⟨(Pg.layL ⟨0,k,0,[]⟩).toArray⟩ by unfold newB;rw[if_neg (by omega)];rfl]
   generalize (⟨(Pg.layL ⟨0,k,0,[]⟩).toArray⟩:ByteArray)=q at HM ⊢
   have h3:(0:Int)≤(k:Int):=by omega
   have h4:(k:Int)≤4:=by omega
   clear h1 h2
   go_enter Tryz.func146,Tryz.ntmps146
   go_wp2_with (go_at_call 102;refine(HM.out _).mono ?_;rintro e w1 ⟨rfl,hb1⟩)
   go_ret
   exact⟨rfl,hb1⟩
def lsnB (p:ByteArray)(n:Int):ByteArray:=if isPg p=false∨n<0∨281474976710656≤n then⟨#[]⟩else⟨(Pg.layL ⟨n.toNat,(leafP p).kind,(leafP p).link,(leafP p).recs⟩).toArray⟩
theorem rsetlsn_any (p:ByteArray)(n:Int)(hm:p.size≤140737488355328)(w:World):
 Calls Tryz.prog 60 #[p,n] w fun e w'=>e= .returned (.string (lsnB p n))∧Below w.heap.size w w':=by
 have HT:=Hq (fun W=>rparts_leaf p hm W)
 have hfine:=Pg.leafOf_fine p.data.toList
 cases hb:isPg p with
 |false=>
  rw[show lsnB p n=⟨#[]⟩from if_pos (.inl hb)]
  rw[hb]at HT
  generalize leafP p=x at HT
  clear hfine
  go_enter Tryz.func60,Tryz.ntmps60
  go_wp2_with (go_at_call 101;refine(HT.out _).mono ?_;rintro e w1 ⟨y,A,c,rfl,hcl,hb1⟩)
  go_ret
  exact⟨rfl,below_past_alloc hb1⟩
 |true=>
  rw[hb]at HT
  by_cases h1:n<0
  ·rw[show lsnB p n=⟨#[]⟩from if_pos (.inr (.inl h1))]
   generalize leafP p=x at HT
   clear hfine
   go_enter Tryz.func60,Tryz.ntmps60
   go_wp2_with (go_at_call 101;refine(HT.out _).mono ?_;rintro e w1 ⟨y,A,c,rfl,hcl,hb1⟩)
   go_ret
   exact⟨rfl,below_past_alloc hb1⟩
  ·by_cases h2:281474976710656≤n
   ·rw[show lsnB p n=⟨#[]⟩from if_pos (.inr (.inr h2))]
    generalize leafP p=x at HT
    clear hfine
    go_enter Tryz.func60,Tryz.ntmps60
    go_wp2_with (go_at_call 101;refine(HT.out _).mono ?_;rintro e w1 ⟨y,A,c,rfl,hcl,hb1⟩)
    go_ret
    exact⟨rfl,below_past_alloc hb1⟩
   ·have hnn:((n.toNat:Nat):Int)=n:=by omega
    have hk:n.toNat<281474976710656:=by omega
    rw[show lsnB p n=⟨(Pg.layL ⟨n.toNat,(leafP p).kind,(leafP p).link,(leafP p).recs⟩).toArray⟩ by unfold lsnB;rw[if_neg (by rw[hb];simp;omega)]]
    have h3:(0:Int)≤n:=by omega
    have h4:n<281474976710656:=by omega
    clear h1 h2
    change Pg.Fine (leafP p)at hfine
    generalize leafP p=x at HT hfine ⊢
    have HM:=Hq (fun A c W hW=>rlay_any ⟨n.toNat,x.kind,x.link,x.recs⟩ A c ⟨hk,hfine.small.2.1,hfine.small.2.2⟩ (by have:=hfine.sizeN;show Pg.sizeN x.recs≤_;omega) W hW)
    clear hfine hk hb
    generalize (⟨(Pg.layL ⟨n.toNat,x.kind,x.link,x.recs⟩).toArray⟩:ByteArray)=q at HM ⊢
    simp only[hnn]at HM
    clear hnn
    go_enter Tryz.func60,Tryz.ntmps60
    go_wp2_with (first|(go_at_call 101;refine(HT.out _).mono ?_;rintro e w1 ⟨y,A,c,rfl,hcl,hb1⟩;obtain⟨hy,hco⟩:=hcl rfl;clear hcl;subst hy)|(go_at_call 102;refine(HM.out _ _ _ ((hco.cells).below ((Below.refl _ _).alloc (Nat.le_refl _) _))).mono ?_;rintro e w2 ⟨rfl,hb2⟩))
    go_ret
    exact⟨rfl,andThen (below_past_alloc hb1) hb2⟩
def sealT (t:ByteArray):ByteArray:=Oct.putB (Oct.sumN t.data.toList:Nat) 4++t
def sealB (p:ByteArray):ByteArray:=if isPg p then sealT (p.extract 4 512)else⟨#[]⟩
theorem isPg_size {p:ByteArray}(h:isPg p=true):p.size=512:=by
 unfold isPg at h
 cases hr:Pg.right p.data.toList with
 |none=>rw[hr]at h;cases h
 |some x=>
  have:=(Pg.right_fine hr).2
  have h9:p.data.toList.length=p.size:=(by simp)
  omega
def sealedP (p:ByteArray):Bool:=isPg p&&decide (sealT (p.extract 4 512)=p)
theorem str_eq (a b:ByteArray):(a.toList==b.toList)=decide (a=b):=by
 rw[ByteArray.toList_eq,ByteArray.toList_eq,Bool.beq_eq_decide_eq]
 by_cases h:a=b
 ·simp[h]
 ·have h1:a.data.toList≠b.data.toList:=fun e=>h (ByteArray.ext (Array.toList_inj.1 e))
  simp[h,h1]
theorem rput_keeps (n size:Int)(h0:0≤size)(h8:size≤8)(w0 u:World)(h:Below w0.heap.size w0 u):
 Calls Tryz.prog 111 #[n,size] u fun e w'=>e= .returned (.string (Oct.putB n size))∧Below w0.heap.size w0 w':=
 (rput_any n size h0 h8 u).mono fun _ _ ⟨h1,h2⟩=>⟨h1,andThen h h2⟩
theorem rsum_keeps (s:ByteArray)(hm:s.size≤281474976710656)(w0 u:World)(h:Below w0.heap.size w0 u):
 Calls Tryz.prog 79 #[s] u fun e w'=>e= .returned (.int .i64 (Oct.sumN s.data.toList))∧Below w0.heap.size w0 w':=
 (rsum_any s hm u).mono fun _ _ ⟨h1,h2⟩=>⟨h1,h2▸h⟩
theorem prseal_any (p:ByteArray)(hm:p.size≤140737488355328)(w:World):
 Calls Tryz.prog 108 #[p] w fun e w'=>e= .returned (.string (sealB p))∧Below w.heap.size w w':=by
 have HT:=Hq (fun W=>prright_any p hm W)
 unfold sealB
 cases hb:isPg p with
 |false=>
  rw[hb]at HT
  clear hb
  go_enter Tryz.func108,Tryz.ntmps108
  go_wp2_with (go_at_call 151;refine(HT.out _).mono ?_;rintro e w1 ⟨rfl,hb1⟩)
  go_ret
  exact⟨rfl,hb1⟩
 |true=>
  have h512:=isPg_size hb
  have h4:4≤p.size:=by omega
  have HS:=Hq (fun w0 W hW=>rsum_keeps (p.extract 4 512) (by simp;omega) w0 W hW)
  have hz4:(p.extract 4 p.size).size=508:=by simp;omega
  have hz5:(p.extract 4 512).size=508:=by simp;omega
  unfold sealT
  generalize Oct.sumN (p.extract 4 512).data.toList=n at HS ⊢
  have hz:(Oct.putB (n:Int) 4).size=4:=Oct.putB_size _ 4 (by omega)
  have HP:=Hq (fun w0 W hW=>rput_keeps (n:Int) 4 (by omega) (by omega) w0 W hW)
  generalize Oct.putB (n:Int) 4=q at HP hz ⊢
  rw[hb]at HT
  clear hb
  go_enter Tryz.func108,Tryz.ntmps108
  go_upto_region 3 with(first|(go_at_call 151;refine(HT.out _).mono ?_;rintro e w1 ⟨rfl,hb1⟩))
  go_region_held3 (fun we=>Below w1.heap.size w1 we) (first|assumption|exact(Below.refl _ _).drew) (first|(go_at_call 79;refine(HS.out _ _ (by assumption)).mono ?_;rintro e w2 ⟨rfl,hS⟩)|(go_at_call 111;refine(HP.out _ _ (by assumption)).mono ?_;rintro e w3 ⟨rfl,hS⟩))
  go_wp2_with fail
  go_ret
  exact⟨rfl,andThen hb1 hS⟩
theorem rsealed_any (p:ByteArray)(hm:p.size≤140737488355328)(w:World):
 Calls Tryz.prog 147 #[p] w fun e w'=>e= .returned (.bool (sealedP p))∧Below w.heap.size w w':=by
 have HT:=Hq (fun W=>prright_any p hm W)
 have HS:=Hq (fun W=>prseal_any p hm W)
 unfold sealedP
 unfold sealB at HS
 cases hb:isPg p with
 |false=>
  rw[hb]at HT
  clear hb
  go_enter Tryz.func147,Tryz.ntmps147
  go_wp2_with (go_at_call 151;refine(HT.out _).mono ?_;rintro e w1 ⟨rfl,hb1⟩)
  go_ret
  exact⟨rfl,hb1⟩
 |true=>
  rw[hb,if_pos rfl]at HS
  have hc:=str_eq (sealT (p.extract 4 512)) p
  generalize sealT (p.extract 4 512)=q at HS hc ⊢
  generalize decide (q=p)=b at hc ⊢
  rw[hb]at HT
  clear hb
  go_enter Tryz.func147,Tryz.ntmps147
  go_wp2_with (first|(go_at_call 151;refine(HT.out _).mono ?_;rintro e w1 ⟨rfl,hb1⟩)|(go_at_call 108;refine(HS.out _).mono ?_;rintro e w2 ⟨rfl,hb2⟩))
  go_ret
  exact⟨by simp,andThen hb1 hb2⟩
abbrev OwnT (B:Nat)(w:World)(v:Value)(rs:List ByteArray):Prop:=w.ownsRow B 9 1 v rs.length (rs.map Value.string)
theorem OwnT.nil (B:Nat)(w:World):OwnT B w (.slice none 0 0) []:=⟨rfl,.inl ⟨rfl,rfl⟩⟩
theorem OwnT.below {B:Nat}{w w':World}{v:Value}{rs:List ByteArray}(h:OwnT B w v rs)(hb:Below w.heap.size w w'):OwnT B w' v rs:=ownsRow_below h hb
theorem OwnT.form {B:Nat}{w:World}{v:Value}{rs:List ByteArray}(h:OwnT B w v rs):∃ A c,v= .slice A rs.length c∧OwnCells B w A c rs∧Cells w A c rs:=by
 obtain⟨A,c,rfl⟩:∃ A c,v= .slice A rs.length c:=by
  rcases h.2 with⟨hv,hz⟩|⟨g,cap,cur,hv,_⟩
  ·exact⟨none,0,by rw[hv,hz]⟩
  ·exact⟨_,_,hv⟩
 have h1:=own_cells h rfl
 exact⟨A,c,rfl,h1,h1.cells⟩
theorem OwnT.block {B:Nat}{w:World}{v:Value}{rs:List ByteArray}(h:OwnT B w v rs):∀ k,v.ownBlock=some k→B≤k:=fun k hk=>(h.lt k hk).1
theorem wpList_app {ops:Array Oper}{rest:List Oper}{o:Oper}{a:Act}{Q:Exit→Act→World→Prop}(w:World)(hgd:o.guard=none)(s x:Operand)
 (ho:o.op= .call {callee:=.builtin .append,args:=#[s,x],argTypes:=#[27,27]})
 (B:Nat) (v:Value) (xs:List ByteArray) (hs:a.eval s=v) (hown:OwnT B w v xs) (A:Option Addr) (c:Nat) (ys:List ByteArray) (hx:a.eval x= .slice A ys.length c) (hy:Cells w A c ys)
 (hlen:xs.length+ys.length≤1048576) (hbase:B≤w.heap.size)
 (h:∀ v' w',OwnT B w' v' (xs++ys)→w.grownBy w' v.ownBlock→Below B w w'→wpList Tryz.prog ops Q rest (a.put o.dst v') w'):wpList Tryz.prog ops Q (o::rest) a w:=by
 obtain⟨i0,hi,hz0,hz1,hz2⟩:=info_parts pinfo_string
 have hB:∀ w':World,w.grownBy w' v.ownBlock→Below B w w':=fun w' hg=>(Below.refl _ _).grown hg hbase hown.block
 rcases A with _|ad
 ·have hn:ys=[]:=by
   rcases Nat.eq_zero_or_pos ys.length with h0|h0
   ·exact List.eq_nil_of_length_eq_zero h0
   ·obtain⟨b,off,e,_⟩:=hy h0
    cases e
  subst hn
  refine wpList_plain hgd fun K hK=>?_
  have hrun:(Builtin.append_ #[27,27] o.type #[v,.slice none 0 c]).run Tryz.prog w= .ok v w:=by
   rcases hown.2 with⟨rfl,hz⟩|⟨g,cap,cur,rfl,_,_,hnc,_⟩
   ·simp[Builtin.append_,run_underlying Tryz.underlying27,sizeOf,typeInfo,hi,Builtin.lenOf,Builtin.firstCells]
   ·simp[Builtin.append_,run_underlying Tryz.underlying27,sizeOf,typeInfo,hi,Builtin.lenOf,Builtin.firstCells,hnc,storeCells]
  unfold Oper.wp execOp
  have hx':a.eval x= .slice none 0 c:=hx
  simp only[ho,resolve,invoke,builtin,Sem.run_bind,Sem.run_pure,Result.andThen_ok,List.map_toArray,List.map_cons,List.map_nil,hs,hx',hrun]
  exact hK _ _ (h v w (by simpa using hown) (World.grownBy.refl w _) (Below.refl _ _))
 ·refine wpList_append_own w hgd s x _ ho B 9 i0 (.string ⟨#[]⟩) 1 16 Tryz.underlying27 hi hz0 hz1 hz2 rfl (by omega) v xs.length (xs.map Value.string) hs hown ad ys.length c (ys.map Value.string) hx (by simp) ?_ ?_ (by simp only[maxLen];omega) (by omega) hbase ?_
  ·intro j u hu
   rw[List.getElem?_map]at hu
   obtain⟨r,hr,rfl⟩:=Option.map_eq_some_iff.1 hu
   obtain⟨hj,rfl⟩:=List.getElem?_eq_some_iff.1 hr
   obtain⟨b,off,e,_,_,hcell⟩:=hy (by omega)
   injection e with e
   subst e
   rw[show(⟨b,off,none⟩:Addr).add j=⟨b,off+j,none⟩from Addr.add_mid b off j]
   exact hcell j hj
  ·intro u hu
   obtain⟨r,_,rfl⟩:=List.mem_map.1 hu
   rfl
  ·intro v' w' h1 h2 _
   exact h v' w' (by unfold OwnT;rw[List.length_append,List.map_append];exact h1) h2 (hB w' h2)
end Go.Proofs.YtilakddepaplhaaGreat
namespace Pg
def putAt (rs:List ByteArray)(k:Nat)(r:ByteArray):List ByteArray:=(rs++List.replicate (k+1-rs.length) (⟨#[]⟩:ByteArray)).set k r
def upTo (rs:List ByteArray)(k:Nat):List ByteArray:=rs++List.replicate k (⟨#[]⟩:ByteArray)
theorem upTo_length (rs:List ByteArray)(k:Nat):(upTo rs k).length=rs.length+k:=by simp[upTo]
theorem upTo_succ (rs:List ByteArray)(k:Nat):upTo rs (k+1)=upTo rs k++[⟨#[]⟩]:=by
 unfold upTo
 rw[List.replicate_succ',List.append_assoc]
end Pg
namespace Go.Proofs.YtilakddepaplhaaGreat
open Go.RowKit
theorem cells_one (w:World)(r:ByteArray):Cells (w.alloc (.cells #[r] 9)) (some ⟨w.heap.size,0,none⟩) 1 [r]:=fun _=>by
 refine⟨w.heap.size,0,rfl,Nat.le_refl _,by simp,fun j hj=>?_⟩
 obtain rfl:j=0:=by simpa using hj
 rw[cell_of_row _ _ _ _ _ _ (heap_alloc_new w (.cells #[r] 9))];rfl
theorem own_some {B:Nat}{w:World}{v:Value}{rs:List ByteArray}(h:OwnT B w v rs)(h0:0<rs.length):∃ g c,v= .slice (some ⟨g,0,none⟩) rs.length c∧B≤g∧rs.length≤c∧g<w.heap.size∧(∀ j (hj:j<rs.length),w.cell? ⟨g,j,none⟩=some (.string rs[j]))∧(∀ j,w.frozen? ⟨g,j,none⟩=false):=by
 obtain⟨A,c,rfl,ho,-⟩:=h.form
 obtain⟨g,rfl,h1,h2,h3,h4⟩:=ho h0
 exact⟨g,c,rfl,h1,h2,h3,h4,fun j=>h.frozenAt j⟩
theorem own_stored {B:Nat}{w:World}{g c:Nat}{rs:List ByteArray}(h:OwnT B w (.slice (some ⟨g,0,none⟩) rs.length c) rs)(k:Nat)(r:ByteArray):OwnT B (w.setCell ⟨g,k,none⟩ (.string r)) (.slice (some ⟨g,0,none⟩) (rs.set k r).length c) (rs.set k r):=by
 have h1:=(h.stored k (.string r)).1
 unfold OwnT
 rw[List.length_set,List.map_set]
 exact h1
def lenV (v:Value):Nat:=match v with| .slice _ n _=>n|_=>0
theorem rwith_far (A:Option Addr)(c n:Nat)(i:Int)(r:ByteArray)(h:512<i)(w:World):
 Calls Tryz.prog 194 #[.slice A n c,i,r] w fun e w'=>e= .returned (.tuple #["s",false])∧w=w':=by
 go_enter Tryz.func194,Tryz.ntmps194
 go_wp2_with fail
 go_ret2
 exact⟨rfl,rfl⟩
theorem prwith_any (rs:List ByteArray)(A:Option Addr)(c k:Nat)(r:ByteArray)(hl:rs.length≤4096)(hk:k≤512)(w:World)(h:Cells w A c rs):
 Calls Tryz.prog 194 #[.slice A rs.length c,.int .i64 (k:Int),r] w fun e w'=>∃ A' c',e= .returned (.tuple #[.slice A' (Pg.putAt rs k r).length c',true])∧OwnCells w.heap.size w' A' c' (Pg.putAt rs k r)∧Below w.heap.size w w':=by
 have hk5:(k:Int)≤512:=by omega
 go_enter Tryz.func194,Tryz.ntmps194
 go_wp2_with (at_builtin;refine wpList_app _ rfl _ _ rfl w.heap.size (.slice none 0 0) [] rfl (OwnT.nil _ _) A c rs rfl h (by simp;omega) (Nat.le_refl _) ?_;intro v1 w1 hown1 hg1 hb1)
 rw[List.nil_append]at hown1
 have HC:=Hq h
 have HB:=Hq hb1
 clear hg1 h hk5 hb1
 go_loopw [8] (fun v wr=>∃ j,j≤k+1-rs.length∧OwnT w.heap.size wr v (Pg.upTo rs j)∧Below w.heap.size w wr) (fun v _=>8193-lenV v)
 case atStart=>exact⟨0,Nat.zero_le _,by simpa[Pg.upTo]using hown1,HB.out⟩
 case round=>
  obtain⟨j,hj,hown,hb⟩:=hrel
  have hwr:=hb.size
  have hln:=Pg.upTo_length rs j
  have HS:=Hq (Pg.upTo_succ rs j)
  obtain⟨L,hL⟩:=ex (Pg.upTo rs j)
  rw[← hL]at hown hln HS
  have HL:=Hq hL
  have HLN:=Hq hln
  clear hL
  obtain⟨Av,cv,rfl,hoc,-⟩:=hown.form
  by_cases hlt:L.length≤k
  ·have hj2:j+1≤k+1-rs.length:=by omega
   clear hln hoc
   go_wp2_with (at_builtin;refine wpList_app _ rfl _ _ rfl w.heap.size _ L rfl (hown.below ((Below.refl _ _).alloc (Nat.le_refl _) _)) _ 1 [⟨#[]⟩] rfl (cells_one wr _) (by simp;omega) (by simp;omega) ?_;intro v2 w2 hown2 hg2 hb2)
   have hb3:Below w.heap.size w w2:=hb.trans (((Below.refl _ _).alloc (by omega) _).trans hb2)
   rw[← HS.out]at hown2
   have hf:∃ A' c',v2= .slice A' (L.length+1) c':=by
    obtain⟨A',c',rfl,-⟩:=hown2.form
    exact⟨A',c',by rw[HS.out,List.length_append];rfl⟩
   obtain⟨A',c',rfl⟩:=hf
   clear hg2
   go_roundw
   case rel=>exact⟨j+1,hj2,hown2,hb3⟩
   case measure=>simp[lenV];omega
  ·have hj3:j=k+1-rs.length:=by omega
   have hkl:k<L.length:=by omega
   obtain⟨g,cv',hv,hg,hcv,hgl,hcell,hfz⟩:=own_some hown (by omega)
   injection hv with hA hn hcc
   subst hA
   subst hcc
   have hck:=hcell k hkl
   have hfk:=hfz k
   have hst:=own_stored hown k r
   have hset:L.set k r=Pg.putAt rs k r:=by rw[HL.out,hj3];rfl
   rw[hset]at hst
   have HST:=Hq hst
   have hLl:(Pg.putAt rs k r).length=L.length:=by rw[← hset,List.length_set]
   have HSE:=Hq hLl
   have hk0:(0:Int)≤(k:Int):=by omega
   have hk1:(k:Int)<(L.length:Int):=by omega
   clear hcell hfz hst hset hLl hj3 hln hoc
   go_wp2_with fail
   go_ret2
   exact⟨some ⟨g,0,none⟩,cv,(by rw[HSE.out];rfl),own_cells HST.out rfl,hb.setCell hg _⟩
end Go.Proofs.YtilakddepaplhaaGreat
namespace Pg
theorem sizeN_trim (rs:List ByteArray):sizeN (trim rs)≤sizeN rs:=by
 unfold sizeN trim
 have:=sumSizes_take_le rs (trimN rs rs.length)
 have:=List.length_take_le (trimN rs rs.length) rs
 have:(rs.take (trimN rs rs.length)).length≤rs.length:=by rw[List.length_take];omega
 omega
theorem layL_nil {x:Leaf}(h:512<sizeN (trim x.recs)):layL x=[]:=by unfold layL layR;rw[if_pos h]
theorem layL_length {x:Leaf}(h:sizeN (trim x.recs)≤512):(layL x).length=512:=layR_length x _ (by omega)
theorem layL_nil_iff (x:Leaf):layL x=[]↔512<sizeN (trim x.recs):=by
 constructor
 ·intro h
  rcases Nat.lt_or_ge 512 (sizeN (trim x.recs))with h1|h1
  ·exact h1
  ·have:=layL_length h1;rw[h]at this;cases this
 ·exact layL_nil
def fullO (x:Leaf):ByteArray×Int:=if layL x=[]then(⟨#[]⟩,18)else(⟨(layL x).toArray⟩,0)
theorem fullO_yes {x:Leaf}(h:sizeN (trim x.recs)≤512):fullO x=(⟨(layL x).toArray⟩,0):=by
 unfold fullO;rw[if_neg];rw[layL_nil_iff];omega
theorem fullO_no {x:Leaf}(h:512<sizeN (trim x.recs)):fullO x=(⟨#[]⟩,18):=by
 unfold fullO;rw[if_pos ((layL_nil_iff x).2 h)]
end Pg
namespace Go.Proofs.YtilakddepaplhaaGreat
open Go.RowKit
abbrev outV (o:ByteArray×Int):Value:=.tuple #[o.1,o.2]
theorem laid_any (x:Pg.Leaf)(A:Option Addr)(c:Nat)(hx:Pg.Small x)(hb:Pg.sizeN x.recs≤1099511627776)(ht:Pg.sizeN x.recs≤512∨Pg.trim x.recs=x.recs)(w:World)(h:Cells w A c x.recs):
 Calls Tryz.prog 195 #[leafV x A c] w fun e w'=>e= .returned (outV (Pg.fullO x))∧Below w.heap.size w w':=by
 have HL:=Hq (fun W hW=>rlay_any x A c hx hb W hW)
 have HC:=Hq (h.below ((Below.refl w.heap.size w).alloc (Nat.le_refl _) (.cells #[x.lsn,x.kind,x.link,.slice A x.recs.length c] 152 (0,0))))
 clear h
 by_cases h5:Pg.sizeN x.recs≤512
 ·rw[Pg.fullO_yes (Nat.le_trans (Pg.sizeN_trim _) h5)]
  have HF:=Hq (fun W hW=>rfits_is x A c x.recs hb true (decide_eq_true h5) W hW)
  clear h5 hb ht
  generalize (⟨(Pg.layL x).toArray⟩:ByteArray)=q at HL ⊢
  go_enter Tryz.func195,Tryz.ntmps195
  go_wp2_with (first|(go_at_call 165;refine(HF.out _ HC.out).mono ?_;rintro e w1 ⟨rfl,hb1⟩;obtain⟨c0,c1,c2,c3,f0,f1,f2,f3⟩:=blk4 (blk_new hb1))|(go_at_call 102;refine(HL.out _ (HC.out.below hb1)).mono ?_;rintro e w2 ⟨rfl,hb2⟩))
  go_ret2
  exact⟨rfl,andThen (below_past hb1) hb2⟩
 ·have ht2:Pg.trim x.recs=x.recs:=by rcases ht with h|h;exact absurd h h5;exact h
  rw[Pg.fullO_no (by rw[ht2];omega)]
  have HF:=Hq (fun W hW=>rfits_is x A c x.recs hb false (decide_eq_false h5) W hW)
  clear h5 hb ht ht2
  go_enter Tryz.func195,Tryz.ntmps195
  go_wp2_with (first|(go_at_call 165;refine(HF.out _ HC.out).mono ?_;rintro e w1 ⟨rfl,hb1⟩))
  go_ret2
  exact⟨rfl,below_past hb1⟩
end Go.Proofs.YtilakddepaplhaaGreat
namespace Pg
theorem sumSizes_replicate (n:Nat):sumSizes (List.replicate n (⟨#[]⟩:ByteArray))=0:=by
 induction n with
 |zero=>rfl
 |succ n ih=>rw[List.replicate_succ,sumSizes,ih];rfl
theorem sumSizes_set (rs:List ByteArray)(k:Nat)(r:ByteArray)(h:k<rs.length):sumSizes (rs.set k r)+rs[k].size=sumSizes rs+r.size:=by
 have h1:=sumSizes_split rs k h
 rw[List.set_eq_take_append_cons_drop,if_pos h,sumSizes_append,sumSizes]
 omega
theorem putAt_length (rs:List ByteArray)(k:Nat)(r:ByteArray):(putAt rs k r).length=max rs.length (k+1):=by
 unfold putAt
 simp
 omega
theorem putAt_sum (rs:List ByteArray)(k:Nat)(r:ByteArray):sumSizes (putAt rs k r)≤sumSizes rs+r.size:=by
 unfold putAt
 have h:k<(rs++List.replicate (k+1-rs.length) (⟨#[]⟩:ByteArray)).length:=by simp;omega
 have h1:=sumSizes_set _ k r h
 rw[sumSizes_append,sumSizes_replicate]at h1
 omega
theorem putAt_get (rs:List ByteArray)(k:Nat)(r:ByteArray)(j:Nat):((putAt rs k r)[j]?).getD ⟨#[]⟩=if j=k then r else(rs[j]?).getD ⟨#[]⟩:=by
 unfold putAt
 rw[List.getElem?_set]
 by_cases h:k=j
 ·subst h
  rw[if_pos rfl,if_pos (by simp;omega),if_pos rfl];rfl
 ·rw[if_neg h,if_neg (fun e=>h e.symm),List.getElem?_append]
  split
  ·rfl
  ·rename_i h1
   rw[List.getElem?_replicate,List.getElem?_eq_none (by omega)]
   split<;>rfl
theorem tight_of_last {rs:List ByteArray}(h:rs.length=0∨((rs[rs.length-1]?).getD ⟨#[]⟩).size≠0):Tight rs:=by
 intro r hr
 rw[List.getLast?_eq_getElem?]at hr
 rcases h with h|h
 ·rw[List.eq_nil_of_length_eq_zero h]at hr;simp at hr
 ·rw[hr]at h;exact h
theorem tight_last {rs:List ByteArray}(h:Tight rs):rs.length=0∨((rs[rs.length-1]?).getD ⟨#[]⟩).size≠0:=by
 rcases Nat.eq_zero_or_pos rs.length with h0|h0
 ·exact .inl h0
 ·right
  have hg:rs[rs.length-1]? =some rs[rs.length-1]:=List.getElem?_eq_getElem (by omega)
  rw[hg]
  exact h _ (by rw[List.getLast?_eq_getElem?,hg];rfl)
theorem putAt_tight {rs:List ByteArray}(h:Tight rs)(k:Nat){r:ByteArray}(hr:r.size≠0):Tight (putAt rs k r):=by
 refine tight_of_last (.inr ?_)
 rw[putAt_get,putAt_length]
 split
 ·exact hr
 ·rcases tight_last h with h1|h1
  ·omega
  ·rw[show max rs.length (k+1)-1=rs.length-1 by omega];exact h1
theorem putAt_size (rs:List ByteArray)(k:Nat)(r:ByteArray):sizeN (putAt rs k r)≤19+4*max rs.length (k+1)+(sumSizes rs+r.size):=by
 have:=putAt_sum rs k r
 unfold sizeN
 rw[putAt_length];omega
structure Good (x:Leaf):Prop where
 fine:Fine x
 tight:Tight x.recs
 fits:sizeN x.recs≤512
theorem right_good {p:List UInt8}{x:Leaf}(h:right p=some x):Good x:=
 ⟨(right_fine h).1,(right_tight h).1,(right_tight h).2⟩
theorem leafOf_good (p:List UInt8):Good (leafOf p):=by
 unfold leafOf
 cases h:right p with
 |none=>exact⟨zero_fine,(by intro r hr;cases hr),by decide⟩
 |some x=>exact right_good h
end Pg
namespace Go.Proofs.YtilakddepaplhaaGreat
open Go.RowKit
def mayB (r:ByteArray):Bool:=decide (1≤r.size∧r.size≤400)
theorem mayB_yes {r:ByteArray}(h:mayB r=true):1≤r.size∧r.size≤400:=by unfold mayB at h;exact of_decide_eq_true h
def withRecs (p:ByteArray)(rs:List ByteArray):Pg.Leaf:={leafP p with recs:=rs}
theorem leafP_good (p:ByteArray):Pg.Good (leafP p):=Pg.leafOf_good _
theorem withRecs_small (p:ByteArray)(rs:List ByteArray):Pg.Small (withRecs p rs):=(leafP_good p).fine.small
def putO (p:ByteArray)(i:Int)(r:ByteArray):ByteArray×Int:=
 if isPg p=false then(⟨#[]⟩,1)else if i<0 then(⟨#[]⟩,1)else if(Pg.slotAt (leafP p).recs i).size≠0 then(⟨#[]⟩,1)
 else if mayB r=false then(⟨#[]⟩,1)else if 512<i then(⟨#[]⟩,18)else Pg.fullO (withRecs p (Pg.putAt (leafP p).recs i.toNat r))
theorem rpput_any (p:ByteArray)(i:Int)(r:ByteArray)(hm:p.size≤140737488355328)(w:World):
 Calls Tryz.prog 153 #[p,i,r] w fun e w'=>e= .returned (outV (putO p i r))∧Below w.heap.size w w':=by
 have HT:=Hq (fun W=>rparts_leaf p hm W)
 have HA:=Hq (fun W=>rget_any_rec p i hm W)
 have HY:=Hq (fun W=>rmay_any r W)
 change Hid (∀ W,Calls _ _ _ _ fun e w'=>e= .returned (.bool (mayB r))∧_)at HY
 have hgood:=leafP_good p
 unfold putO
 cases hb:isPg p with
 |false=>
  rw[if_pos rfl]
  rw[hb]at HT
  generalize Pg.slotAt (leafP p).recs i=q at HA
  generalize (!decide (q.size=0))=b at HA
  generalize leafP p=x at HT
  clear hgood hb HY
  go_enter Tryz.func153,Tryz.ntmps153
  go_wp2_with (first|(go_at_call 101;refine(HT.out _).mono ?_;rintro e w1 ⟨y0,A,c,rfl,hcl,hb1⟩)|(go_at_call 152;refine(HA.out _).mono ?_;rintro e w2 ⟨rfl,hb2⟩))
  go_ret2
  exact⟨rfl,andThen hb1 (below_past hb2)⟩
 |true=>
  rw[hb]at HT
  rw[if_neg (by simp)]
  clear hb
  by_cases h1:i<0
  ·rw[if_pos h1]
   generalize Pg.slotAt (leafP p).recs i=q at HA
   generalize (!decide (q.size=0))=b at HA
   generalize leafP p=x at HT
   clear hgood HY
   go_enter Tryz.func153,Tryz.ntmps153
   go_wp2_with (first|(go_at_call 101;refine(HT.out _).mono ?_;rintro e w1 ⟨y0,A,c,rfl,hcl,hb1⟩;obtain⟨hy,hco⟩:=hcl rfl;clear hcl;subst hy)|(go_at_call 152;refine(HA.out _).mono ?_;rintro e w2 ⟨rfl,hb2⟩;obtain⟨c0,c1,c2,c3,f0,f1,f2,f3⟩:=blk4 (blk_new hb2);have hlt:w1.heap.size<w2.heap.size:=(by have:=hb2.size;simp at this;omega)))
   go_ret2
   exact⟨rfl,andThen hb1 (below_past hb2)⟩
  ·rw[if_neg h1]
   obtain⟨k,rfl⟩:=Int.eq_ofNat_of_zero_le (show 0≤i by omega)
   have hk0:(0:Int)≤(k:Int):=by omega
   clear h1
   rw[show((k:Int)).toNat=k from rfl]
   by_cases h2:(Pg.slotAt (leafP p).recs (k:Int)).size≠0
   ·rw[if_pos h2]
    rw[decide_eq_false h2]at HA
    clear h2
    generalize Pg.slotAt (leafP p).recs (k:Int)=q at HA
    generalize leafP p=x at HT
    clear hgood HY
    go_enter Tryz.func153,Tryz.ntmps153
    go_wp2_with (first|(go_at_call 101;refine(HT.out _).mono ?_;rintro e w1 ⟨y0,A,c,rfl,hcl,hb1⟩;obtain⟨hy,hco⟩:=hcl rfl;clear hcl;subst hy)|(go_at_call 152;refine(HA.out _).mono ?_;rintro e w2 ⟨rfl,hb2⟩;obtain⟨c0,c1,c2,c3,f0,f1,f2,f3⟩:=blk4 (blk_new hb2);have hlt:w1.heap.size<w2.heap.size:=(by have:=hb2.size;simp at this;omega)))
    go_ret2
    exact⟨rfl,andThen hb1 (below_past hb2)⟩
   ·rw[if_neg h2]
    rw[decide_eq_true (Decidable.not_not.1 h2)]at HA
    clear h2
    generalize Pg.slotAt (leafP p).recs (k:Int)=q at HA
    cases hy:mayB r with
    |false=>
     rw[if_pos rfl]
     rw[hy]at HY
     generalize leafP p=x at HT
     clear hgood hy
     go_enter Tryz.func153,Tryz.ntmps153
     go_wp2_with (first|(go_at_call 101;refine(HT.out _).mono ?_;rintro e w1 ⟨y0,A,c,rfl,hcl,hb1⟩;obtain⟨hy,hco⟩:=hcl rfl;clear hcl;subst hy)|(go_at_call 152;refine(HA.out _).mono ?_;rintro e w2 ⟨rfl,hb2⟩;obtain⟨c0,c1,c2,c3,f0,f1,f2,f3⟩:=blk4 (blk_new hb2);have hlt:w1.heap.size<w2.heap.size:=(by have:=hb2.size;simp at this;omega))|(go_at_call 193;refine(HY.out _).mono ?_;rintro e w3 ⟨rfl,rfl⟩))
     go_ret2
     exact⟨rfl,andThen hb1 (below_past hb2)⟩
    |true=>
     rw[if_neg (by simp)]
     rw[hy]at HY
     obtain⟨hr1,hr2⟩:=mayB_yes hy
     clear hy
     by_cases h5:(512:Int)<(k:Int)
     ·rw[if_pos h5]
      have HW:=Hq (fun A c n W=>rwith_far A c n (k:Int) r h5 W)
      generalize leafP p=x at HT
      clear hgood
      go_enter Tryz.func153,Tryz.ntmps153
      go_wp2_with (first|(go_at_call 101;refine(HT.out _).mono ?_;rintro e w1 ⟨y0,A,c,rfl,hcl,hb1⟩;obtain⟨hy,hco⟩:=hcl rfl;clear hcl;subst hy)|(go_at_call 152;refine(HA.out _).mono ?_;rintro e w2 ⟨rfl,hb2⟩;obtain⟨c0,c1,c2,c3,f0,f1,f2,f3⟩:=blk4 (blk_new hb2);have hlt:w1.heap.size<w2.heap.size:=(by have:=hb2.size;simp at this;omega))|(go_at_call 193;refine(HY.out _).mono ?_;rintro e w3 ⟨rfl,rfl⟩)|(go_at_call 194;refine(HW.out _ _ _ _).mono ?_;rintro e w4 ⟨rfl,rfl⟩))
      go_ret2
      exact⟨rfl,andThen hb1 (below_past hb2)⟩
     ·rw[if_neg h5]
      have hln:=hgood.fine.len
      have hsm:=hgood.fine.sum
      have hps:=Pg.putAt_size (leafP p).recs k r
      have HW:=Hq (fun A c W hW=>prwith_any (leafP p).recs A c k r (by omega) (by omega) W hW)
      have HU:=Hq (fun A c W hW=>laid_any (withRecs p (Pg.putAt (leafP p).recs k r)) A c (withRecs_small p _) (by show Pg.sizeN (Pg.putAt _ _ _)≤_;omega) (.inr ((Pg.trim_tight _).2 (Pg.putAt_tight hgood.tight k (by omega)))) W hW)
      generalize Pg.fullO (withRecs p (Pg.putAt (leafP p).recs k r))=o at HU ⊢
      change Hid (∀ A c W,Cells W A c (Pg.putAt (leafP p).recs k r)→Calls _ _ #[.agg #[.int .i64 (leafP p).lsn,.int .i64 (leafP p).kind,.int .i64 (leafP p).link,.slice A (Pg.putAt (leafP p).recs k r).length c]] _ _)at HU
      clear hps hln hsm hgood
      generalize Pg.putAt (leafP p).recs k r=rs at HW HU
      generalize leafP p=x at HT HW HU
      go_enter Tryz.func153,Tryz.ntmps153
      go_wp2_with (first|(go_at_call 101;refine(HT.out _).mono ?_;rintro e w1 ⟨y0,A,c,rfl,hcl,hb1⟩;obtain⟨hy,hco⟩:=hcl rfl;clear hcl;subst hy)|(go_at_call 152;refine(HA.out _).mono ?_;rintro e w2 ⟨rfl,hb2⟩;obtain⟨c0,c1,c2,c3,f0,f1,f2,f3⟩:=blk4 (blk_new hb2);have hlt:w1.heap.size<w2.heap.size:=(by have:=hb2.size;simp at this;omega))|(go_at_call 193;refine(HY.out _).mono ?_;rintro e w3 ⟨rfl,rfl⟩)|(go_at_call 194;refine(HW.out _ _ _ (hco.cells.below (below_past hb2))).mono ?_;rintro e w4 ⟨A',c',rfl,ho4,hb4⟩;obtain⟨d0,d1,d2,d3,g0,g1,g2,g3⟩:=blk4 (blk_old (blk_new hb2) hb4))|(go_at_call 195;refine(HU.out _ _ _ (OwnCells.set ho4 _ hlt _).cells).mono ?_;rintro e w5 ⟨rfl,hb5⟩))
      go_ret2
      exact⟨rfl,andThen ((andThen (andThen hb1 (below_past hb2)) hb4).setCell hb1.size _) hb5⟩
end Go.Proofs.YtilakddepaplhaaGreat
