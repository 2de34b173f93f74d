import Derived.Test.YtilakddepaplhaaGreatHb00
import Derived.Test.YtilakddepaplhaaGreatHb13
import Derived.Test.YtilakddepaplhaaGreatHb04
import Derived.Test.YtilakddepaplhaaGreatHb01
import Derived.Lib.SliceRun
import Derived.Deep.RegionLaw
import Derived.Test.YtilakddepaplhaaGreatHb08
import Derived.Deep.MidRow
import Derived.Test.YtilakddepaplhaaGreatHb12
import Derived.Test.YtilakddepaplhaaGreatHb11
set_option maxRecDepth 100000
set_option maxHeartbeats 16000000
set_option linter.unusedSimpArgs false
namespace Tx
open Rc Lg
def noted (r:Rec):Prop:=1≤r.txn∧1≤r.kind∧r.kind≤7
instance (r:Rec):Decidable (noted r):=by unfold noted;exact inferInstance
def tuneT (r:Rec)(t:TxnAt):TxnAt:=⟨t.txn,r.lsn,if r.kind=1∨r.kind=2 then r.lsn else if r.kind=3∨r.kind=4 then r.next else t.next,if r.kind=5 then true else t.done⟩
def placeT:List TxnAt→Int→Option Nat
 |[],_=>none
 |t::l,n=>if t.txn=n then some 0 else(placeT l n).map (·+1)
theorem placeT_some {l:List TxnAt}{n:Int}{i:Nat}(h:placeT l n=some i):∃ hi:i<l.length,l[i].txn=n∧∀ j (hj:j<i),l[j].txn≠n:=by
 induction l generalizing i with
 |nil=>cases h
 |cons t l ih=>
  unfold placeT at h
  split at h
  ·rename_i ht
   injection h with h;subst h
   exact⟨by simp,ht,fun j hj=>absurd hj (by omega)⟩
  ·rename_i ht
   cases hp:placeT l n with
   |none=>rw[hp]at h;cases h
   |some k=>
    rw[hp]at h
    injection h with h
    have h4:i=k+1:=h.symm
    subst h4
    obtain⟨h1,h2,h3⟩:=ih hp
    refine⟨by simpa using h1,by simpa using h2,fun j hj=>?_⟩
    cases j with
    |zero=>simpa using ht
    |succ j=>simpa using h3 j (by omega)
theorem placeT_none {l:List TxnAt}{n:Int}(h:placeT l n=none):∀ t∈l,t.txn≠n:=by
 induction l with
 |nil=>intro t ht;cases ht
 |cons t l ih=>
  unfold placeT at h
  split at h
  ·cases h
  ·rename_i ht
   cases hp:placeT l n with
   |some k=>rw[hp]at h;cases h
   |none=>
    intro u hu
    rcases List.mem_cons.1 hu with e|e
    ·rw[e];exact ht
    ·exact ih hp u e
theorem placeT_at {l:List TxnAt}{n:Int}{i:Nat}(hi:i<l.length)(h:l[i].txn=n)(h0:∀ j (hj:j<i),l[j].txn≠n):placeT l n=some i:=by
 cases hp:placeT l n with
 |none=>exact absurd h (placeT_none hp _ (List.getElem_mem hi))
 |some k=>
  obtain⟨h1,h2,h3⟩:=placeT_some hp
  rcases Nat.lt_trichotomy k i with h4|h4|h4
  ·exact absurd h2 (h0 k h4)
  ·rw[h4]
  ·exact absurd h (h3 i h4)
theorem placeT_no {l:List TxnAt}{n:Int}(h:∀ t∈l,t.txn≠n):placeT l n=none:=by
 cases hp:placeT l n with
 |none=>rfl
 |some k=>obtain⟨h1,h2,_⟩:=placeT_some hp;exact absurd h2 (h _ (List.getElem_mem h1))
def noteT (l:List TxnAt)(r:Rec):List TxnAt:=
 if ¬ noted r then l else
 match placeT l r.txn with
 |none=>if r.kind=7 then l else l++[tuneT r ⟨r.txn,0,0,false⟩]
 |some i=>if r.kind=7 then l.take i++l.drop (i+1)else l.take i++tuneT r (l[i]?.getD ⟨0,0,0,false⟩)::l.drop (i+1)
theorem noteT_len (l:List TxnAt)(r:Rec):(noteT l r).length≤l.length+1:=by
 unfold noteT
 split
 ·omega
 ·cases hp:placeT l r.txn with
  |none=>simp only;split<;>simp
  |some i=>
   obtain⟨hi,_⟩:=placeT_some hp
   simp only
   split
   ·rw[List.length_append,List.length_take,List.length_drop];omega
   ·rw[List.length_append,List.length_take,List.length_cons,List.length_drop];omega
structure St where
 zlog:Int
 zpages:Int
 zframes:Int
 disk:Dk
 log:Lo
 hand:Int
 txns:List TxnAt
 next:Int
def findS (s:St)(n:Int):TxnAt×Bool:=match placeT s.txns n with
 |none=>(⟨0,0,0,false⟩,false)
 |some i=>(s.txns[i]?.getD ⟨0,0,0,false⟩,true)
def markS (s:St)(n:Int):Int:=(findS s n).1.last
noncomputable def putS (s:St) (r:Rec):St×Int:=
 if(appendD s.log r).2.2=0 then({s with log:=(appendD s.log r).1,txns:=noteT s.txns {r with lsn:=(appendD s.log r).2.1}},0)else(s,(appendD s.log r).2.2)
noncomputable def beginS (s:St):St×Int×Int:=
 if(putS s (bare 1 0 0 s.next)).2=0 then({(putS s (bare 1 0 0 s.next)).1 with next:=s.next+1},s.next,0)else(s,0,(putS s (bare 1 0 0 s.next)).2)
noncomputable def ownS (s:St) (n:Int) (opn:Bool) (r:Rec):St×Int:=
 if(findS s n).2=false then(s,21)else if opn=true∧(findS s n).1.done=true then(s,17)else putS s {r with txn:=n,prev:=(findS s n).1.last}
noncomputable def endS (s:St) (n:Int):St×Int:=ownS s n false (bare 7 0 0 0)
noncomputable def forceS (s:St):St×Int:=({s with disk:=(forceD s.disk s.log).1,log:=(forceD s.disk s.log).2.1},(forceD s.disk s.log).2.2)
noncomputable def closeS (s:St) (n:Int):St×Int:=
 if(putS s (bare 7 0 (markS s n) n)).2=0 then((putS s (bare 7 0 (markS s n) n)).1,0)else({s with txns:=noteT s.txns (bare 7 0 (markS s n) n)},0)
noncomputable def commitS (s:St) (n:Int):St×Int:=
 if(ownS s n true (bare 5 0 0 0)).2=0 then
  if(forceS (ownS s n true (bare 5 0 0 0)).1).2=0 then closeS (forceS (ownS s n true (bare 5 0 0 0)).1).1 n else forceS (ownS s n true (bare 5 0 0 0)).1
 else ownS s n true (bare 5 0 0 0)
def fresh (n:Nat):St:=⟨n,0,0,newD (n+1),⟨1,n,0,0,⟨#[]⟩⟩,0,[],1⟩
end Tx
namespace Lg
open Rc
theorem manyN (l:List Rec):l.length*8≤(bytes l).length:=by
 induction l with
 |nil=>simp
 |cons r l ih=>rw[bytes_cons,List.length_append,putR_len,List.length_cons];omega
structure OpensN (N:Nat) (d:Dk) (l:List Rec):Prop where
 whole:Whole d.sectors
 len:d.sectors.length=N+1
 opens:(openL (logS 1 N d) (N*128+1) 0).1=l
theorem OpensN.start {N:Nat}{d:Dk}{l:List Rec}(h:OpensN N d l):∃ o,openD (startD d) 1 N=(o,l,0):=by
 have hw:Whole (startD d).sectors:=h.whole
 have hl:(startD d).sectors.length=N+1:=h.len
 obtain⟨h1,_⟩:=LInv.opened (F:=1) (N:=N) (d:=startD d) rfl hw (by omega)
 have h3:(openL (logS 1 N (startD d)) (N*128+1) 0).1=l:=h.opens
 rw[h3]at h1
 refine⟨(openD (startD d) 1 N).1,?_⟩
 have e:openD (startD d) 1 N=((openD (startD d) 1 N).1,(openD (startD d) 1 N).2):=rfl
 have h4:(openD (startD d) 1 N).2=(l,0):=h1
 rw[h4]at e
 exact e
theorem OpensN.same {N:Nat}{d e:Dk}{l:List Rec}(h:OpensN N d l)(hs:e.sectors=d.sectors):OpensN N e l:=
 ⟨by rw[hs];exact h.whole,by rw[hs];exact h.len,by unfold logS;rw[hs];exact h.opens⟩
theorem newD_wholeN (n:Nat):Whole (newD n).sectors:=fun b hb=>by
 have:b=zero128:=by
  have h:=List.mem_replicate.1 hb
  exact h.2
 rw[this];exact zero128_size
theorem writeD_20 {d:Dk}{a:Int}{b:ByteArray}(h:(writeD d a b).2=20):(writeD d a b).1.down=true:=by
 unfold writeD at h ⊢
 split
 ·rename_i h1;exact h1
 ·rename_i h1
  rw[if_neg h1]at h
  split
  ·rename_i h2;rw[if_pos h2]at h;exact absurd h (by show ¬ (1:Int)=20;decide)
  ·rename_i h2
   rw[if_neg h2]at h
   split
   ·rfl
   ·rename_i h3;rw[if_neg h3]at h;exact absurd h (by show ¬ (0:Int)=20;decide)
theorem putAll_20 (base:Int)(all:List ByteArray):∀ (i:Nat) (d:Dk),(putAll base all i d).2=20→(putAll base all i d).1.down=true:=by
 intro i
 induction i with
 |zero=>intro d h;exact absurd h (by show ¬ (0:Int)=20;decide)
 |succ i ih=>
  intro d h
  unfold putAll at h ⊢
  split
  ·rename_i h1;rw[if_pos h1]at h;exact ih _ h
  ·rename_i h1;rw[if_neg h1]at h;exact writeD_20 h
theorem force_20 {d:Dk}{g:Lo}(h:(forceD d g).2.2=20):(forceD d g).1.down=true:=by
 unfold forceD at h ⊢
 split
 ·rename_i h1;rw[if_pos h1]at h;exact absurd h (by show ¬ (0:Int)=20;decide)
 ·rename_i h1
  rw[if_neg h1]at h
  simp only at h ⊢
  split
  ·rename_i h2;rw[if_pos h2]at h;exact absurd h (by show ¬ (0:Int)=20;decide)
  ·rename_i h2;rw[if_neg h2]at h;exact putAll_20 _ _ _ _ h
theorem LInv.force_down {F N:Nat}{d0 d:Dk}{g:Lo}{r1 r2:List Rec}(h:LInv F N d0 g r1 r2)(h2:r2≠[])(hd:d.down=true):forceD d g=(d,g,20):=by
 have hpos:0<(bytes r2).length:=Nat.pos_of_ne_zero fun hz=>h2 (bytes_nil hz)
 have hse:¬ g.safe=g.end_:=by
  rw[h.safe,h.end_,bytes_le];omega
 have hts:=h.tail_size
 have hend:=h.end_
 rw[bytes_le]at hend
 have ht:0<g.tail.size:=by omega
 have hc:=cutB_length g.tail
 have hall:0<(allS g).length:=by
  unfold allS
  split
  ·rw[List.length_append,List.length_singleton];omega
  ·omega
 obtain⟨m,hm⟩:∃ m,(allS g).length=m+1:=⟨(allS g).length-1,by omega⟩
 have hp:putAll (g.from_+Lg.firstS g) (allS g) (allS g).length d=(d,20):=by
  rw[hm]
  unfold putAll
  have hwd:∀ a b,writeD d a b=(d,20):=fun a b=>by unfold writeD;rw[if_pos hd]
  rw[hwd,if_neg (by show ¬ (20:Int)=0;decide)]
 unfold forceD
 rw[if_neg hse]
 simp only[hp]
 rw[if_neg (by decide)]
end Lg
namespace Tx
open Rc Lg
def Good (N:Nat)(s:St):Prop:=∃ r1 r2,LInv 1 N s.disk s.log r1 r2∧s.disk.down=false∧s.disk.left= -1∧s.disk.sectors.length=N+1∧Lies (logS 1 N s.disk) r1∧(r1++r2).foldl noteT []=s.txns
def Has (L:List Rec)(x:Int):Prop:=∃ r∈L,r.kind=5∧r.txn=x
theorem forceD_leftN {d:Dk}{g:Lo}(h: -1≤d.left∧d.left≤9223372036854775807): -1≤(forceD d g).1.left∧(forceD d g).1.left≤9223372036854775807:=by
 have key:∀ base all i (d:Dk),-1≤d.left∧d.left≤9223372036854775807→-1≤(putAll base all i d).1.left∧(putAll base all i d).1.left≤9223372036854775807:=by
  intro base all i
  induction i with
  |zero=>intro d h;exact h
  |succ i ih=>
   intro d h
   have hw: -1≤(writeD d (base+(i:Int)) (all[i]?.getD ⟨#[]⟩)).1.left∧(writeD d (base+(i:Int)) (all[i]?.getD ⟨#[]⟩)).1.left≤9223372036854775807:=by
    unfold writeD
    split
    ·exact h
    ·split
     ·exact h
     ·split
      ·exact h
      ·simp only;split<;>omega
   unfold putAll
   split
   ·exact ih _ hw
   ·exact hw
 unfold forceD
 split
 ·exact h
 ·simp only
  split<;>exact key _ _ _ _ h
end Tx
namespace Lg
open Rc
theorem append_okT {l:Lo}{r:Rec}(h:Right {r with lsn:=l.end_+1})(h2:¬ l.n*128-((putR {r with lsn:=l.end_+1}).length:Int)<l.end_):appendD l r=({l with end_:=l.end_+((putR {r with lsn:=l.end_+1}).length:Int),tail:=l.tail++⟨(putR {r with lsn:=l.end_+1}).toArray⟩},l.end_+1,0):=by
 unfold appendD
 simp only
 rw[if_neg (fun hn=>hn h),if_neg h2]
end Lg
namespace Tx
open Rc Lg
structure LogB (s:St):Prop where
 e0:0≤s.log.end_
 e1:s.log.end_≤128000
 t0:(s.log.tail.size:Int)≤s.log.end_
 t1:s.log.end_%128≤(s.log.tail.size:Int)
 f:s.log.from_=1
 n0:0≤s.log.n
 n1:s.log.n≤1000
 s0:0≤s.log.safe
 s1:s.log.safe≤s.log.end_
def placeI:Option Nat→Int
 |none=> -1
 |some k=>(k:Int)
end Tx
namespace Go.Proofs.YtilakddepaplhaaGreat
open Go.RowKit
def PlaceOut (o:Option Nat)(w:World)(e:Ending)(w':World):Prop:=e= .returned (.int .i64 (Tx.placeI o))∧Below w.heap.size w w'
theorem info_tx:(Tryz.prog.info? 92).map (fun i=>(i.zero,i.size,i.bytes))=some (some (.agg #[(),(),(),false]),4,32):=by kernel_rfl
theorem txC_one (t:Rc.TxnAt):∀ u∈txC t,u.oneCell'=true:=by
 intro u hu
 simp only[txC,List.mem_cons,List.not_mem_nil,or_false]at hu
 rcases hu with rfl|rfl|rfl|rfl<;>rfl
theorem txC_all (l:List Rc.TxnAt):∀ u∈l.flatMap txC,u.oneCell'=true:=by
 intro u hu
 obtain⟨t,_,ht⟩:=List.mem_flatMap.1 hu
 exact txC_one t u ht
theorem ownSetAt {w:World}{B size n c g:Nat}{e:TypeId}{xs:List Value}(h:w.ownsRow B e size (.slice (some ⟨g,0,none⟩) n c) n xs)(j:Nat)(hj:j<n*size):
 w.cell? ⟨g,j,none⟩=xs[j]?∧w.frozen? ⟨g,j,none⟩=false∧∀ x,(w.setCell ⟨g,j,none⟩ x).ownsRow B e size (.slice (some ⟨g,0,none⟩) n c) n (xs.set j x):=by
 obtain⟨hl,h2⟩:=h
 rcases h2 with⟨h0,_⟩|⟨g',cap,cur,hv,hg,hh,hn,hcap,hsz,htake⟩
 ·cases h0
 ·injection hv with hv1 hv2 hv3
  injection hv1 with hv1
  injection hv1 with hv1 _ _
  subst hv1 hv3
  have hnc:n*size≤c*size:=Nat.mul_le_mul_right _ hn
  refine⟨?_,blkFrozen hh j,fun x=>⟨by rw[List.length_set];exact hl,.inr ⟨g,c,cur.setIfInBounds j x,rfl,hg,blkSet j hh x,hn,hcap,by rw[Array.size_setIfInBounds];exact hsz,?_⟩⟩⟩
  ·rw[blkCell hh j,← htake,List.getElem?_take,if_pos hj,Array.getElem?_toList]
  ·rw[← htake]
   refine List.ext_getElem? fun i=>?_
   rw[List.getElem?_set,List.getElem?_take,List.length_take,List.getElem?_take,Array.toList_setIfInBounds,List.getElem?_set]
   have hs:cur.toList.length=cur.size:=by simp
   by_cases h1:j=i
   ·subst h1
    rw[if_pos rfl,if_pos rfl,if_pos hj,if_pos (by omega),if_pos (by omega)]
   ·rw[if_neg h1,if_neg h1]
theorem flat_set {α:Type}{enc:α→List Value}{k:Nat}(hk:∀ x,(enc x).length=k):∀ (l:List α) (j f:Nat) (y:α) (x:Value) (hj:j<l.length),f<k→enc y=(enc l[j]).set f x→(l.flatMap enc).set (j*k+f) x=(l.set j y).flatMap enc:=by
 intro l
 induction l with
 |nil=>intro j f y x hj;simp at hj
 |cons a l ih=>
  intro j f y x hj hf he
  cases j with
  |zero=>
   simp only[List.getElem_cons_zero]at he
   rw[List.flatMap_cons,List.set_cons_zero,List.flatMap_cons,he,Nat.zero_mul,Nat.zero_add,List.set_append_left _ _ (by rw[hk];exact hf)]
  |succ j=>
   simp only[List.getElem_cons_succ]at he
   rw[List.flatMap_cons,List.set_cons_succ,List.flatMap_cons,List.set_append_right _ _ (by rw[hk,Nat.succ_mul];omega)]
   congr 1
   rw[show(j+1)*k+f-(enc a).length=j*k+f by rw[hk,Nat.succ_mul];omega]
   exact ih j f y x (by simpa using hj) hf he
theorem setCells_blk {g:Nat}{T:TypeId}{fr:Nat×Nat}:∀ (vs:List Value) (o:Nat) (cs:Array Value) (w:World),w.heap[g]? =some (.cells cs T fr)→∃ cs':Array Value,(w.setCells g o vs).heap[g]? =some (.cells cs' T fr)∧cs'.size=cs.size∧∀ j,cs'[j]? =if o≤j∧j<o+vs.length∧j<cs.size then vs[j-o]? else cs[j]? :=by
 intro vs
 induction vs with
 |nil=>intro o cs w h;exact⟨cs,h,rfl,fun j=>by rw[if_neg (by simp;omega)]⟩
 |cons v vs ih=>
  intro o cs w h
  obtain⟨cs',h1,h2,h3⟩:=ih (o+1) _ _ (blkSet o h v)
  refine⟨cs',h1,by rw[h2,Array.size_setIfInBounds],fun j=>?_⟩
  rw[h3,Array.size_setIfInBounds,Array.getElem?_setIfInBounds]
  by_cases hj:j=o
  ·subst hj
   rw[if_neg (by omega),if_pos rfl]
   by_cases hb:j<cs.size
   ·rw[if_pos hb,if_pos ⟨Nat.le_refl _,by simp,hb⟩,Nat.sub_self];rfl
   ·rw[if_neg hb,if_neg (by omega),Array.getElem?_eq_none (by omega)]
  ·by_cases hc:o+1≤j∧j<o+1+vs.length∧j<cs.size
   ·rw[if_pos hc,if_pos (by simp;omega)]
    obtain⟨m,rfl⟩:∃ m,j=o+1+m:=⟨j-(o+1),by omega⟩
    rw[show o+1+m-(o+1)=m by omega,show o+1+m-o=m+1 by omega,List.getElem?_cons_succ]
   ·rw[if_neg hc,if_neg (fun e=>hj e.symm),if_neg (by simp;omega)]
theorem setCells_below {B g:Nat}(hg:B≤g):∀ (vs:List Value) (o:Nat) (w:World),Below B w (w.setCells g o vs):=by
 intro vs
 induction vs with
 |nil=>intro o w;exact Below.refl _ _
 |cons v vs ih=>
  intro o w
  exact((Below.refl B w).setCell (p:=⟨g,o,none⟩) hg v).trans (ih (o+1) _)
end Go.Proofs.YtilakddepaplhaaGreat
namespace Tx
open Rc
theorem noteT_no {l:List TxnAt}{r:Rec}(h:¬ noted r):noteT l r=l:=by unfold noteT;rw[if_pos h]
theorem noteT_gone {l:List TxnAt}{r:Rec}(h:noted r)(hp:placeT l r.txn=none)(hk:r.kind=7):noteT l r=l:=by unfold noteT;rw[if_neg (fun hn=>hn h),hp];simp only;rw[if_pos hk]
theorem noteT_new {l:List TxnAt}{r:Rec}(h:noted r)(hp:placeT l r.txn=none)(hk:¬ r.kind=7):noteT l r=(l++[(⟨r.txn,0,0,false⟩:TxnAt)]).set l.length (tuneT r ⟨r.txn,0,0,false⟩):=by
 unfold noteT;rw[if_neg (fun hn=>hn h),hp];simp only;rw[if_neg hk,List.set_append_right _ _ (Nat.le_refl _),Nat.sub_self];rfl
theorem noteT_end {l:List TxnAt}{r:Rec}{i:Nat}(h:noted r)(hp:placeT l r.txn=some i)(hk:r.kind=7):noteT l r=l.take i++l.drop (i+1):=by unfold noteT;rw[if_neg (fun hn=>hn h),hp];simp only;rw[if_pos hk]
theorem noteT_old {l:List TxnAt}{r:Rec}{i:Nat}(h:noted r)(hp:placeT l r.txn=some i)(hk:¬ r.kind=7)(hi:i<l.length):noteT l r=l.set i (tuneT r l[i]):=by
 unfold noteT;rw[if_neg (fun hn=>hn h),hp];simp only;rw[if_neg hk,List.getElem?_eq_getElem hi,Option.getD_some,List.set_eq_take_append_cons_drop,if_pos hi]
end Tx
namespace Go.Proofs.YtilakddepaplhaaGreat
open Go.RowKit
theorem rowSet {w:World}{B g N c:Nat}{M:List Rc.TxnAt}(h:w.ownsRow B 92 4 (.slice (some ⟨g,0,none⟩) N c) N (M.flatMap txC))(hN:M.length=N)(k:Nat)(hk:k<M.length)(f:Nat)(hf:f<4)(x:Value)(y:Rc.TxnAt)(he:txC y=(txC M[k]).set f x):
 w.cell? ⟨g,k*4+f,none⟩=(txC M[k])[f]?∧w.frozen? ⟨g,k*4+f,none⟩=false∧(w.setCell ⟨g,k*4+f,none⟩ x).ownsRow B 92 4 (.slice (some ⟨g,0,none⟩) N c) N ((M.set k y).flatMap txC):=by
 obtain⟨h1,h2,h3⟩:=ownSetAt h (k*4+f) (by omega)
 refine⟨by rw[h1,flat_at txC_len M k f hk hf],h2,?_⟩
 rw[← flat_set txC_len M k f y x hk hf he]
 exact h3 x
theorem ownSome {w:World}{B size n:Nat}{e:TypeId}{v:Value}{xs:List Value}(h:w.ownsRow B e size v n xs)(hn:0<n):∃ g c,v= .slice (some ⟨g,0,none⟩) n c∧B≤g:=by
 rcases h.2 with⟨_,h0⟩|⟨g,cap,cur,hv,hg,_⟩
 ·omega
 ·exact⟨g,cap,hv,hg⟩
end Go.Proofs.YtilakddepaplhaaGreat
namespace Tx
theorem findS_none {s:St}{n:Int}(h:placeT s.txns n=none):findS s n=(⟨0,0,0,false⟩,false):=by unfold findS;rw[h]
theorem findS_some {s:St}{n:Int}{i:Nat}(h:placeT s.txns n=some i)(hi:i<s.txns.length):findS s n=(s.txns[i],true):=by unfold findS;rw[h];simp only;rw[List.getElem?_eq_getElem hi,Option.getD_some]
end Tx
namespace Go.Proofs.YtilakddepaplhaaGreat
open Go.RowKit
theorem listPart {P:Program}{ops:Array Oper}{rest:List Oper}{op:Oper}{a:Act}{w:World}{Q:Exit→Act→World→Prop}(hw:Region.wanted op (yielded ops a.tmps)=true)(ty:TypeId)(x:Operand)(ho:op.op= .load ty x)
 (b o:Nat) (hx:a.eval x= .pointer (some ⟨b,o,none⟩)) (part cells:Array Value) (t:TypeId) (hg:w.heap[b]? =some (.cells cells t (0,0))) (hp:(cells.toList.drop o).take part.size=part.toList) (d:TypeDesc)
 (hu:P.underlying ty=some d) (hd:d.isRow=true) (hi:(P.info? ty).map (·.size)=some part.size)
 (h:wpList P ops Q rest (a.put op.dst (.agg part)) w):wpList P ops Q (op::rest) a w:=
 listWants hw fun K hK=>by
  refine wp_load_mid ty x ho b o hx part.toList d (fun j v hj=>?_) hu hd (by simpa using hi) ?_
  ·rw[blkCell hg]
   have h1:j<part.size:=by have:=(List.getElem?_eq_some_iff.1 hj).1;simpa using this
   rw[← hp,List.getElem?_take,if_pos h1,List.getElem?_drop,Array.getElem?_toList]at hj
   exact hj
  ·simpa using hK _ _ h
theorem lP {P:Program}{ops:Array Oper}{rest:List Oper}{op:Oper}{a:Act}{w:World}{Q:Exit→Act→World→Prop}{ty:TypeId}{x:Operand}{b o:Nat}(part:Array Value){cells:Array Value}{t:TypeId}{d:TypeDesc}(hg:w.heap[b]? =some (.cells cells t (0,0)))(hu:P.underlying ty=some d)(h:wpList P ops Q rest (a.put op.dst (.agg part)) w)(ho:op.op= .load ty x:=by exact rfl)(hx:a.eval x= .pointer (some ⟨b,o,none⟩):=by with_unfolding_all exact rfl)(hw:Region.wanted op (yielded ops a.tmps)=true:=by kernel_rfl)(hp:(cells.toList.drop o).take part.size=part.toList:=by kernel_rfl)(hd:d.isRow=true:=by kernel_rfl)(hi:(P.info? ty).map (·.size)=some part.size:=by kernel_rfl):wpList P ops Q (op::rest) a w:=listPart hw ty x ho b o hx part cells t hg hp d hu hd hi h
theorem listPut {P:Program}{ops:Array Oper}{rest:List Oper}{op:Oper}{a:Act}{w:World}{Q:Exit→Act→World→Prop}(hw:Region.wanted op (yielded ops a.tmps)=true)(ty:TypeId)(x y:Operand)(ho:op.op= .store ty x y)
 (b o:Nat) (part cur res:Array Value) (t:TypeId) (hx:a.eval x= .pointer (some ⟨b,o,none⟩)) (hy:a.eval y= .agg part) (hg:w.heap[b]? =some (.cells cur t (0,0))) (hr:res=(cur.toList.take o++part.toList++cur.toList.drop (o+part.toList.length)).toArray)
 (hsz:decide (o+part.toList.length≤cur.size)=true) (hi:(P.info? ty).map (·.size)=some part.size) (h1:part.all (·.oneCell')=true) (h:wpList P ops Q rest (a.put op.dst undef) (w.setRow b res)):wpList P ops Q (op::rest) a w:=
 listWants hw fun K hK=>by
  have hst:=run_storeCells_at P b o t part.toList 0 cur w hg (by rw[Nat.add_zero];exact of_decide_eq_true hsz) (fun v hv=>(Array.all_eq_true_iff_forall_mem.1 h1) v (by simpa using hv))
  rw[Nat.add_zero,← hr]at hst
  have hrun:(storeVar ty ⟨b,o,none⟩ (.agg part)).run P w= .ok () (w.setRow b res):=by
   cases hq:P.info? ty with
   |none=>simp[hq]at hi
   |some i=>
    have hs:part.size=i.size:=by simp[hq]at hi;omega
    simp[storeVar,sizeOf,typeInfo,hq,Value.cells,hs,hst]
  unfold Oper.wp execOp
  simp only[ho,hx,hy,Instr.storeAt,Instr.sureAddr,Sem.run_bind,Sem.run_pure,Result.andThen_ok,hrun]
  exact hK _ _ h
theorem lU {P:Program}{ops:Array Oper}{rest:List Oper}{op:Oper}{a:Act}{w:World}{Q:Exit→Act→World→Prop}{ty:TypeId}{x y:Operand}{b o:Nat}(part:Array Value){cur:Array Value}(res:Array Value){t:TypeId}(hg:w.heap[b]? =some (.cells cur t (0,0)))(h:wpList P ops Q rest (a.put op.dst undef) (w.setRow b res))(ho:op.op= .store ty x y:=by exact rfl)(hx:a.eval x= .pointer (some ⟨b,o,none⟩):=by with_unfolding_all exact rfl)(hy:a.eval y= .agg part:=by with_unfolding_all exact rfl)(hw:Region.wanted op (yielded ops a.tmps)=true:=by kernel_rfl)(hr:res=(cur.toList.take o++part.toList++cur.toList.drop (o+part.toList.length)).toArray:=by kernel_rfl)(hs:decide (o+part.toList.length≤cur.size)=true:=by kernel_rfl)(hi:(P.info? ty).map (·.size)=some part.size:=by kernel_rfl)(h1:part.all (·.oneCell')=true:=by kernel_rfl):wpList P ops Q (op::rest) a w:=listPut hw ty x y ho b o part cur res t hx hy hg hr hs hi h1 h
structure SP where
 A:Option Addr
 c:Nat
 F:Option Addr
 fn:Nat
 fc:Nat
 T:Option Addr
 tc:Nat
abbrev storeV (s:Tx.St)(p:SP):Value:=.agg #[s.zlog,s.zpages,s.zframes,.slice p.A s.disk.sectors.length p.c,s.disk.left,s.disk.down,s.log.from_,s.log.n,s.log.end_,s.log.safe,s.log.tail,.slice p.F p.fn p.fc,s.hand,.slice p.T s.txns.length p.tc,s.next]
structure StoreR (w:World) (s:Tx.St) (p:SP):Prop where
 dk:DiskR w s.disk p.A p.c
 dt:NewT 0 w 9 p.A
 tx:TxR w p.T p.tc s.txns
 tt:NewT 0 w 92 p.T
theorem StoreR.below {w w':World}{s:Tx.St}{p:SP}(h:StoreR w s p)(hb:Below w.heap.size w w'):StoreR w' s p:=⟨h.dk.below hb,h.dt.below hb,h.tx.below hb,h.tt.below hb⟩
theorem StoreR.other {w:World}{s:Tx.St}{p:SP}(h:StoreR w s p){b:Nat}{cur:Array Value}{t:TypeId}{fr:Nat×Nat}(hb:w.heap[b]? =some (.cells cur t fr))(h1:t≠9)(h2:t≠92)(cs:Array Value):StoreR (w.setRow b cs) s p:=
 ⟨⟨h.dt.readsRow h.dk.secs hb h1 cs,h.dk.small⟩,h.dt.row b cs,h.tt.readsRow h.tx hb h2 cs,h.tt.row b cs⟩
theorem StoreR.set {w:World}{s:Tx.St}{p:SP}(h:StoreR w s p){b:Nat}{cur:Array Value}{t:TypeId}{fr:Nat×Nat}(hb:w.heap[b]? =some (.cells cur t fr))(h1:t≠9)(h2:t≠92)(j:Nat)(v:Value):StoreR (w.setCell ⟨b,j,none⟩ v) s p:=by
 rw[setCell_eq_setRow w b j cur t fr v hb]
 exact h.other hb h1 h2 _
end Go.Proofs.YtilakddepaplhaaGreat
namespace Tx
open Rc Lg
theorem al_append {l:Lo}(r:Rec)(h:Al l):Al (appendD l r).1:=by
 have h1:=h.s0
 have h2:=h.se
 have h3:=h.tl
 by_cases hR:Right {r with lsn:=l.end_+1}
 ·by_cases hF:l.n*128-((putR {r with lsn:=l.end_+1}).length:Int)<l.end_
  ·unfold appendD
   simp only
   rw[if_neg (fun hn=>hn hR),if_pos hF]
   exact h
  ·have e:(appendD l r).1={l with end_:=l.end_+((putR {r with lsn:=l.end_+1}).length:Int),tail:=l.tail++⟨(putR {r with lsn:=l.end_+1}).toArray⟩}:=by
    unfold appendD
    simp only
    rw[if_neg (fun hn=>hn hR),if_neg hF]
   rw[e]
   have hz:(⟨(putR {r with lsn:=l.end_+1}).toArray⟩:ByteArray).size=(putR {r with lsn:=l.end_+1}).length:=by show(putR {r with lsn:=l.end_+1}).toArray.size=_;simp
   refine⟨h1,?_,?_⟩
   ·show l.safe≤l.end_+((putR {r with lsn:=l.end_+1}).length:Int);omega
   ·show l.end_+((putR {r with lsn:=l.end_+1}).length:Int)-((l.tail++⟨(putR {r with lsn:=l.end_+1}).toArray⟩).size:Int)=l.safe-l.safe%128
    rw[ByteArray.size_append,hz]
    omega
 ·unfold appendD
  simp only
  rw[if_pos hR]
  exact h
theorem al_put {s:St}(r:Rec)(h:Al s.log):Al (putS s r).1.log:=by
 unfold putS
 split
 ·exact al_append r h
 ·exact h
theorem al_own {s:St}(n:Int)(o:Bool)(r:Rec)(h:Al s.log):Al (ownS s n o r).1.log:=by
 unfold ownS
 split
 ·exact h
 ·split
  ·exact h
  ·exact al_put _ h
theorem note_found {l:List TxnAt}{r:Rec}{k:Nat}(hk:placeT l r.txn=some k)(h7:r.kind≠7):∃ j,placeT (noteT l r) r.txn=some j:=by
 unfold noteT
 split
 ·exact⟨k,hk⟩
 ·rw[hk]
  simp only
  cases hp:placeT (l.take k++tuneT r (l[k]?.getD ⟨0,0,0,false⟩)::l.drop (k+1)) r.txn with
  |some j=>exact⟨j,rfl⟩
  |none=>
   exfalso
   obtain⟨hi,h1,_⟩:=placeT_some hk
   have h2:=placeT_none hp (tuneT r (l[k]?.getD ⟨0,0,0,false⟩)) (by simp)
   apply h2
   show(l[k]?.getD ⟨0,0,0,false⟩).txn=_
   rw[List.getElem?_eq_getElem hi]
   exact h1
theorem own_found {s:St}{n:Int}(h:(ownS s n true (bare 5 0 0 0)).2=0):∃ k,placeT (ownS s n true (bare 5 0 0 0)).1.txns n=some k:=by
 unfold ownS at h ⊢
 split at h
 ·exact absurd h (by show ¬ (21:Int)=0;decide)
 ·rename_i hf
  split at h
  ·exact absurd h (by show ¬ (17:Int)=0;decide)
  ·rename_i hd
   rw[if_neg hf,if_neg hd]
   obtain⟨k,hk⟩:∃ k,placeT s.txns n=some k:=by
    unfold findS at hf
    cases hp:placeT s.txns n with
    |none=>rw[hp]at hf;exact absurd rfl hf
    |some k=>exact⟨k,rfl⟩
   unfold putS at h ⊢
   split at h
   ·rename_i hz
    rw[if_pos hz]
    exact note_found (r:={{bare 5 0 0 0 with txn:=n,prev:=(findS s n).1.last}with lsn:=(appendD s.log {bare 5 0 0 0 with txn:=n,prev:=(findS s n).1.last}).2.1}) hk (by show ¬ (5:Int)=7;decide)
   ·rename_i hz
    exact absurd h hz
theorem end_found {s:St}{n:Int}(h:∃ k,placeT s.txns n=some k):endS s n=putS s (bare 7 0 (markS s n) n):=by
 obtain⟨k,hk⟩:=h
 have hf:(findS s n).2=true:=by unfold findS;rw[hk]
 unfold endS ownS
 rw[if_neg (by rw[hf];decide),if_neg (fun hc=>by have:=hc.1;cases this)]
 rfl
theorem note_end (l:List TxnAt)(a b n:Int):noteT l (bare 7 0 a n)=noteT l (bare 7 0 b n):=by
 unfold noteT
 have e:noted (bare 7 0 a n)↔noted (bare 7 0 b n):=Iff.rfl
 have k1:(bare 7 0 a n).kind=7:=rfl
 have k2:(bare 7 0 b n).kind=7:=rfl
 have t1:(bare 7 0 a n).txn=n:=rfl
 have t2:(bare 7 0 b n).txn=n:=rfl
 by_cases hn:noted (bare 7 0 a n)
 ·rw[if_neg (not_not_intro hn),if_neg (not_not_intro (e.1 hn)),t1,t2]
  cases placeT l n with
  |none=>simp only[k1,k2,if_true]
  |some i=>simp only[k1,k2,if_true]
 ·rw[if_pos hn,if_pos (fun hc=>hn (e.2 hc))]
theorem close_yes {s:St}{n:Int}(h:∃ k,placeT s.txns n=some k)(h2:(endS s n).2=0):closeS s n=((endS s n).1,0):=by
 rw[end_found h]at h2 ⊢
 unfold closeS
 rw[if_pos h2]
theorem close_full {s:St}{n:Int}(h:∃ k,placeT s.txns n=some k)(h2:¬ (endS s n).2=0):closeS s n=({s with txns:=noteT s.txns (bare 7 0 0 n)},0):=by
 rw[end_found h]at h2
 unfold closeS
 rw[if_neg h2,note_end s.txns (markS s n) 0 n]
end Tx
namespace Go.Proofs.YtilakddepaplhaaGreat
open Go.RowKit
abbrev stA (s:Tx.St)(p:SP):Array Value:=#[s.zlog,s.zpages,s.zframes,.slice p.A s.disk.sectors.length p.c,s.disk.left,s.disk.down,s.log.from_,s.log.n,s.log.end_,s.log.safe,s.log.tail,.slice p.F p.fn p.fc,s.hand,.slice p.T s.txns.length p.tc,s.next]
structure Fr where
 page:Int
 bytes:ByteArray
 pins:Int
 mark:Bool
 rc:Int
def frL (f:Fr):List Value:=[.int .i64 f.page,.string f.bytes,.int .i64 f.pins,.bool f.mark,.int .i64 f.rc]
abbrev frA (f:Fr):Array Value:=#[f.page,f.bytes,f.pins,f.mark,f.rc]
theorem frL_len (f:Fr):(frL f).length=5:=rfl
theorem frL_one (f:Fr):∀ u∈frL f,u.oneCell'=true:=by
 intro u hu
 simp only[frL,List.mem_cons,List.not_mem_nil,or_false]at hu
 rcases hu with rfl|rfl|rfl|rfl|rfl<;>rfl
theorem frL_all (l:List Fr):∀ u∈l.flatMap frL,u.oneCell'=true:=by
 intro u hu
 obtain⟨v,_,h⟩:=List.mem_flatMap.1 hu
 exact frL_one v u h
theorem info_fr:(Tryz.prog.info? 81).map (fun i=>(i.zero,i.size,i.bytes))=some (some (.agg #[(),"",(),false,()]),5,48):=by kernel_rfl
theorem str_nil:(⟨#[]⟩:ByteArray).toList=[]:=by rw[ByteArray.toList_eq]
theorem str_ne {b:ByteArray}(h:b≠⟨#[]⟩):¬ b.toList=[]∧(b.toList==[])=false∧(b.toList==(⟨#[]⟩:ByteArray).toList)=false:=by
 have h1:¬ b.toList=[]:=fun h2=>h (by
  rw[ByteArray.toList_eq]at h2
  obtain⟨⟨l⟩⟩:=b
  simp only at h2
  rw[h2])
 have h3:(b.toList==[])=false:=by simpa using h1
 exact⟨h1,h3,by rw[str_nil];exact h3⟩
theorem StoreR.frames {w:World}{s:Tx.St}{p:SP}(h:StoreR w s p)(F:Option Addr)(n c:Nat):StoreR w s {p with F:=F,fn:=n,fc:=c}:=⟨h.dk,h.dt,h.tx,h.tt⟩
structure PoolR (w:World) (s:Tx.St) (p:SP) (fs:List Fr):Prop where
 st:StoreR w s p
 fn:p.fn=fs.length
 fr:Reads w p.F p.fc fs.length (fs.flatMap frL)
 ft:NewT 0 w 81 p.F
theorem PoolR.below {w w':World}{s:Tx.St}{p:SP}{fs:List Fr}(h:PoolR w s p fs)(hb:Below w.heap.size w w'):PoolR w' s p fs:=⟨h.st.below hb,h.fn,h.fr.below hb,h.ft.below hb⟩
theorem PoolR.other {w:World}{s:Tx.St}{p:SP}{fs:List Fr}(h:PoolR w s p fs){b:Nat}{cur:Array Value}{t:TypeId}{fr:Nat×Nat}(hb:w.heap[b]? =some (.cells cur t fr))(h1:t≠9)(h2:t≠92)(h3:t≠81)(cs:Array Value):PoolR (w.setRow b cs) s p fs:=
 ⟨h.st.other hb h1 h2 cs,h.fn,h.ft.readsRow h.fr hb h3 cs,h.ft.row b cs⟩
theorem rowB {B g:Nat}{w u:World}(hg:B≤g)(hb:Below B w u)(cs:Array Value):Below B w (u.setRow g cs):=
 ⟨hb.os,hb.tape,hb.output,by show _≤(u.heap.modify _ _).size;have:=hb.size;simpa using this,fun k hk=>by show(u.heap.modify _ _)[k]? =_;rw[Array.getElem?_modify,if_neg (by omega)];exact hb.block k hk⟩
section
variable {α : Type} {enc : α → List Value} {k : Nat} {e : TypeId} {B g c : Nat} {w : World} {l : List α}
theorem flat_put (hk:∀ x,(enc x).length=k)(l:List α)(i:Nat)(hi:i<l.length)(x:α)(t:Nat):((l.set i x).flatMap enc)[t]? =if i*k≤t∧t<i*k+k then(enc x)[t-i*k]? else(l.flatMap enc)[t]? :=by
 have hle:i*k+k≤l.length*k:=by have:=Nat.mul_le_mul_right k (show i+1≤l.length from hi);rwa[Nat.add_mul,Nat.one_mul]at this
 by_cases hin:i*k≤t∧t<i*k+k
 ·rw[if_pos hin]
  obtain⟨j,rfl⟩:∃ j,t=i*k+j:=⟨t-i*k,by omega⟩
  rw[flat_at hk (l.set i x) i j (by rw[List.length_set];exact hi) (by omega),List.getElem_set_self,Nat.add_sub_cancel_left]
 ·rw[if_neg hin]
  by_cases ht:t<l.length*k
  ·have hk0:0<k:=by rcases Nat.eq_zero_or_pos k with h|h;(· subst h;omega);(· exact h)
   have hd:t/k<l.length:=by rw[Nat.div_lt_iff_lt_mul hk0];exact ht
   have hm:t%k<k:=Nat.mod_lt _ hk0
   have e1:t=t/k*k+t%k:=by rw[Nat.mul_comm];exact(Nat.div_add_mod t k).symm
   have hne:i≠t/k:=fun h=>hin (by rw[h];omega)
   rw[e1,flat_at hk (l.set i x) (t/k) (t%k) (by rw[List.length_set];exact hd) hm,flat_at hk l (t/k) (t%k) hd hm,List.getElem_set_ne hne]
  ·rw[List.getElem?_eq_none (by rw[flat_len hk,List.length_set];omega),List.getElem?_eq_none (by rw[flat_len hk];omega)]
theorem own_blk (ho:OwnL enc k e B w (.slice (some ⟨g,0,none⟩) l.length c) l):∃ cur:Array Value,B≤g∧g<w.heap.size∧w.heap[g]? =some (.cells cur e (0,0))∧l.length≤c∧c≤maxLen∧cur.size=c*k∧∀ t,t<l.length*k→cur[t]? =(l.flatMap enc)[t]? :=by
 obtain⟨hxl,h2⟩:=ho
 rcases h2 with⟨h0,_⟩|⟨g',cap,cur,hv,hgB,hh,hnc,hcap,hsz,htake⟩
 ·cases h0
 injection hv with hv1 hv2 hv3
 injection hv1 with hv1
 injection hv1 with hv1 _ _
 subst hv1 hv3
 refine⟨cur,hgB,heapLt hh,hh,hnc,hcap,hsz,fun t ht=>?_⟩
 rw[← htake,List.getElem?_take,if_pos ht,Array.getElem?_toList]
theorem own_mk {cur:Array Value}(hk:∀ x,(enc x).length=k)(hB:B≤g)(hg:w.heap[g]? =some (.cells cur e (0,0)))(hn:l.length≤c)(hc:c≤maxLen)(hs:cur.size=c*k)(h:∀ t,t<l.length*k→cur[t]? =(l.flatMap enc)[t]?):OwnL enc k e B w (.slice (some ⟨g,0,none⟩) l.length c) l:=by
 refine⟨flat_len hk l,.inr ⟨g,c,cur,rfl,hB,hg,hn,hc,hs,?_⟩⟩
 refine List.ext_getElem? fun t=>?_
 rw[List.getElem?_take]
 by_cases ht:t<l.length*k
 ·rw[if_pos ht,Array.getElem?_toList,h t ht]
 ·rw[if_neg ht,List.getElem?_eq_none (by rw[flat_len hk];omega)]
theorem own_put (hk:∀ x,(enc x).length=k)(ho:OwnL enc k e B w (.slice (some ⟨g,0,none⟩) l.length c) l)(i:Nat)(hi:i<l.length)(x:α):
 w.there g (i*k) k∧OwnL enc k e B (w.setCells g (i*k) (enc x)) (.slice (some ⟨g,0,none⟩) (l.set i x).length c) (l.set i x)∧Below B w (w.setCells g (i*k) (enc x)):=by
 obtain⟨cur,hB,hg,hh,hn,hc,hs,ht⟩:=own_blk ho
 have hle:i*k+k≤l.length*k:=by have:=Nat.mul_le_mul_right k (show i+1≤l.length from hi);rwa[Nat.add_mul,Nat.one_mul]at this
 have hlc:l.length*k≤c*k:=Nat.mul_le_mul_right _ hn
 obtain⟨cur',k1,k2,k3⟩:=setCells_blk (enc x) (i*k) cur w hh
 refine⟨fun j hj=>⟨by rw[blkCell hh,Array.getElem?_eq_getElem (by omega)];rfl,blkFrozen hh _⟩,own_mk hk hB k1 (by rw[List.length_set];exact hn) hc (by rw[k2];exact hs) (fun t h=>?_),setCells_below hB _ _ _⟩
 rw[List.length_set]at h
 rw[k3,flat_put hk l i hi x t,hk]
 by_cases hin:i*k≤t∧t<i*k+k
 ·rw[if_pos ⟨hin.1,hin.2,by omega⟩,if_pos hin]
 ·rw[if_neg (fun h=>hin ⟨h.1,h.2.1⟩),if_neg hin,ht t h]
end
theorem rpis_any (s:Tx.St)(p:SP)(n:Int)(w:World):
 Calls Tryz.prog 53 #[storeV s p,n] w fun e w'=>e= .returned (.bool (decide (0≤n∧n<s.zpages)))∧Below w.heap.size w w':=by
 by_cases h0:0≤n
 ·have h0d:decide (0≤n∧n<s.zpages)=decide (n<s.zpages):=by simp[h0]
  rw[h0d]
  clear h0d
  go_enter Tryz.func53,Tryz.ntmps53
  go_upto_region 1 with fail
  have H0:=nW1 w (stA s p) 37
  obtain⟨W0,hW0⟩:=exW H0
  rw[← hW0]at H0 ⊢
  clear hW0
  have hc:=show W0.cell? ⟨w.heap.size,1,none⟩=some (.int .i64 s.zpages)from by rw[blkCell H0.out.get0];rfl
  go_wp2_with fail
  go_ret
  exact⟨by simp,H0.out.below⟩
 ·have h0d:decide (0≤n∧n<s.zpages)=false:=by simp[h0]
  rw[h0d]
  clear h0d
  go_enter Tryz.func53,Tryz.ntmps53
  go_upto_region 1 with fail
  have H0:=nW1 w (stA s p) 37
  obtain⟨W0,hW0⟩:=exW H0
  rw[← hW0]at H0 ⊢
  clear hW0
  have hc:=show W0.cell? ⟨w.heap.size,1,none⟩=some (.int .i64 s.zpages)from by rw[blkCell H0.out.get0];rfl
  go_wp2_with fail
  go_ret
  exact⟨by simp,H0.out.below⟩
theorem rsector_at (s:Tx.St)(p:SP)(n:Int)(h0:0≤s.zlog∧s.zlog≤1000)(h1:0≤n∧n≤1000)(w:World):
 Calls Tryz.prog 107 #[storeV s p,n] w fun e w'=>e= .returned (.int .i64 (1+s.zlog+4*n))∧Below w.heap.size w w':=by
 go_enter Tryz.func107,Tryz.ntmps107
 go_upto_region 1 with fail
 have H0:=nW1 w (stA s p) 37
 obtain⟨W0,hW0⟩:=exW H0
 rw[← hW0]at H0 ⊢
 clear hW0
 have hc:=show W0.cell? ⟨w.heap.size,0,none⟩=some (.int .i64 s.zlog)from by rw[blkCell H0.out.get0];rfl
 have hw1:IntKind.i64.wrap (1+s.zlog)=1+s.zlog:=IntWalk.i64_in _ (by omega)
 have hw2:IntKind.i64.wrap (4*n)=4*n:=IntWalk.i64_in _ (by omega)
 have hw3:IntKind.i64.wrap (1+s.zlog+4*n)=1+s.zlog+4*n:=IntWalk.i64_in _ (by omega)
 go_wp2_with fail
 go_ret
 exact⟨rfl,H0.out.below⟩
theorem rwho_any (s:Tx.St)(p:SP)(n:Int)(hts:s.txns.length≤800000)(w:World)(hr:TxR w p.T p.tc s.txns):
 Calls Tryz.prog 54 #[storeV s p,n] w fun e w'=>(e= .returned (.int .i64 (-1))∨∃ k:Nat,k<s.txns.length∧e= .returned (.int .i64 k))∧Below w.heap.size w w':=by
 have HR:=Hq hr
 clear hr
 go_enter Tryz.func54,Tryz.ntmps54
 go_upto_region 1 with fail
 have H0:=nW1 w (stA s p) 37
 obtain⟨W0,hW0⟩:=exW H0
 rw[← hW0]at H0 ⊢
 clear hW0
 have hc:=show W0.cell? ⟨w.heap.size,13,none⟩=some (.slice p.T s.txns.length p.tc)from by rw[blkCell H0.out.get0];rfl
 have HB0:=Hq H0.out.below
 have HF:=Hq (fun u (hu:Below W0.heap.size W0 u)=>show u.cell? ⟨w.heap.size,13,none⟩=some (.slice p.T s.txns.length p.tc)from by rw[hu.cell (p:=⟨w.heap.size,13,none⟩) (H0.out.lt (i:=0) (by simp))];exact hc)
 clear H0
 go_wp2_with fail
 go_loopw [5] (fun i wr=>∃ k:Nat,k≤s.txns.length∧i= .int .i64 k∧(∀ j,j<s.txns.length→j<k→True)∧Below W0.heap.size W0 wr) (fun i _=>s.txns.length-(intOf i).toNat)
 case atStart=>exact⟨0,Nat.zero_le _,rfl,fun _ _ h=>absurd h (by omega),Below.refl _ _⟩
 case round=>
  obtain⟨k,hk,rfl,hall,hbw⟩:=hrel
  have hB:=HB0.out.trans (hbw.mono HB0.out.size)
  have hc:=HF.out wr hbw
  have hk0:(0:Int)≤(k:Int):=by omega
  by_cases hlt:k<s.txns.length
  ·have hki:(k:Int)<(s.txns.length:Int):=by omega
   have hwk:IntKind.i64.wrap ((k:Int)+1)=(k:Int)+1:=IntWalk.i64_in _ (by omega)
   obtain⟨b,off,hpT,hcc,hbl,hcell⟩:=read_at txC_len (HR.out.below hB) hlt
   have hx:=hcell 0 _ rfl
   simp only[Nat.add_zero]at hx
   rw[hpT]at hc
   by_cases he:s.txns[k].txn=n
   ·have he2:(s.txns[k].txn==n)=true:=beq_iff_eq.2 he
    go_wp2_with fail
    go_ret
    exact⟨.inr ⟨k,hlt,rfl⟩,hB⟩
   ·have he2:(s.txns[k].txn==n)=false:=beq_eq_false_iff_ne.2 he
    go_wp2_with fail
    go_roundw
    case rel=>exact⟨k+1,by omega,by go_num,fun _ _ _=>trivial,hbw⟩
    case measure=>simp[intOf];omega
  ·obtain rfl:k=s.txns.length:=by omega
   go_wp2_with fail
   go_ret
   exact⟨.inl rfl,hB⟩
theorem rat_any (s:Tx.St)(p:SP)(fs:List Fr)(hfn:p.fn=fs.length)(hfl:fs.length≤100)(n:Int)(w:World)(hr:Reads w p.F p.fc fs.length (fs.flatMap frL)):
 Calls Tryz.prog 57 #[storeV s p,n] w fun e w'=>((e= .returned (.int .i64 (-1))∧∀ j (hj:j<fs.length),fs[j].bytes≠⟨#[]⟩→fs[j].page≠n)∨∃ (k:Nat) (hk:k<fs.length),e= .returned (.int .i64 k)∧fs[k].bytes≠⟨#[]⟩∧fs[k].page=n)∧Below w.heap.size w w':=by
 have HR:=Hq hr
 clear hr
 have HFN:=Hq hfn
 clear hfn
 go_enter Tryz.func57,Tryz.ntmps57
 go_upto_region 1 with fail
 have H0:=nW1 w (stA s p) 37
 obtain⟨W0,hW0⟩:=exW H0
 rw[← hW0]at H0 ⊢
 clear hW0
 have hc:=show W0.cell? ⟨w.heap.size,11,none⟩=some (.slice p.F fs.length p.fc)from by rw[blkCell H0.out.get0,← HFN.out];rfl
 have HB0:=Hq H0.out.below
 have HF:=Hq (fun u (hu:Below W0.heap.size W0 u)=>show u.cell? ⟨w.heap.size,11,none⟩=some (.slice p.F fs.length p.fc)from by rw[hu.cell (p:=⟨w.heap.size,11,none⟩) (H0.out.lt (i:=0) (by simp))];exact hc)
 clear H0
 go_wp2_with fail
 go_loopw [5] (fun i wr=>∃ k:Nat,k≤fs.length∧i= .int .i64 k∧(∀ j (hj:j<fs.length),j<k→fs[j].bytes≠⟨#[]⟩→fs[j].page≠n)∧Below W0.heap.size W0 wr) (fun i _=>fs.length-(intOf i).toNat)
 case atStart=>exact⟨0,Nat.zero_le _,rfl,fun _ _ h=>absurd h (by omega),Below.refl _ _⟩
 case round=>
  obtain⟨k,hk,rfl,hall,hbw⟩:=hrel
  have hB:=HB0.out.trans (hbw.mono HB0.out.size)
  have hc:=HF.out wr hbw
  have hk0:(0:Int)≤(k:Int):=by omega
  by_cases hlt:k<fs.length
  ·have hki:(k:Int)<(fs.length:Int):=by omega
   have hwk:IntKind.i64.wrap ((k:Int)+1)=(k:Int)+1:=IntWalk.i64_in _ (by omega)
   obtain⟨b,off,hpF,hcc,hbl,hcell⟩:=read_at frL_len (HR.out.below hB) hlt
   have hx0:=hcell 0 _ rfl
   have hx1:=hcell 1 _ rfl
   simp only[Nat.add_zero]at hx0
   clear hcell
   generalize hfk:fs[k]=f at hx0 hx1
   obtain⟨fp,fb,fi,fm,fr⟩:=f
   simp only at hx0 hx1
   rw[hpF]at hc
   by_cases hb0:fb=⟨#[]⟩
   ·subst hb0
    have hbz:=str_nil
    go_wp2_with fail
    go_roundw
    case rel=>exact⟨k+1,by omega,by go_num,fun j hj hjk=>by rcases Nat.lt_or_eq_of_le (Nat.le_of_lt_succ hjk)with h5|h5;(· exact hall j hj h5);(· subst h5;rw[hfk];exact fun h=>absurd rfl h),hbw⟩
    case measure=>simp[intOf];omega
   ·obtain⟨hb1,hb2,hb3⟩:=str_ne hb0
    by_cases he:fp=n
    ·have he2:(fp==n)=true:=beq_iff_eq.2 he
     go_wp2_with fail
     go_ret
     exact⟨.inr ⟨k,hlt,rfl,by rw[hfk];exact hb0,by rw[hfk];exact he⟩,hB⟩
    ·have he2:(fp==n)=false:=beq_eq_false_iff_ne.2 he
     go_wp2_with fail
     go_roundw
     case rel=>exact⟨k+1,by omega,by go_num,fun j hj hjk=>by rcases Nat.lt_or_eq_of_le (Nat.le_of_lt_succ hjk)with h5|h5;(· exact hall j hj h5);(· subst h5;rw[hfk];exact fun _=>he),hbw⟩
     case measure=>simp[intOf];omega
  ·obtain rfl:k=fs.length:=by omega
   go_wp2_with fail
   go_ret
   exact⟨.inl ⟨rfl,fun j hj=>hall j hj hj⟩,hB⟩
theorem rfree_at (s:Tx.St)(p:SP)(fs:List Fr)(hfn:p.fn=fs.length)(hfl:fs.length≤100)(w:World)(hr:Reads w p.F p.fc fs.length (fs.flatMap frL)):
 Calls Tryz.prog 149 #[storeV s p] w fun e w'=>((e= .returned (.int .i64 (-1))∧∀ j (hj:j<fs.length),fs[j].bytes≠⟨#[]⟩)∨∃ (k:Nat) (hk:k<fs.length),e= .returned (.int .i64 k)∧fs[k].bytes=⟨#[]⟩)∧Below w.heap.size w w':=by
 have HR:=Hq hr
 clear hr
 have HFN:=Hq hfn
 clear hfn
 go_enter Tryz.func149,Tryz.ntmps149
 go_upto_region 1 with fail
 have H0:=nW1 w (stA s p) 37
 obtain⟨W0,hW0⟩:=exW H0
 rw[← hW0]at H0 ⊢
 clear hW0
 have hc:=show W0.cell? ⟨w.heap.size,11,none⟩=some (.slice p.F fs.length p.fc)from by rw[blkCell H0.out.get0,← HFN.out];rfl
 have HB0:=Hq H0.out.below
 have HF:=Hq (fun u (hu:Below W0.heap.size W0 u)=>show u.cell? ⟨w.heap.size,11,none⟩=some (.slice p.F fs.length p.fc)from by rw[hu.cell (p:=⟨w.heap.size,11,none⟩) (H0.out.lt (i:=0) (by simp))];exact hc)
 clear H0
 go_wp2_with fail
 go_loopw [3] (fun i wr=>∃ k:Nat,k≤fs.length∧i= .int .i64 k∧(∀ j (hj:j<fs.length),j<k→fs[j].bytes≠⟨#[]⟩)∧Below W0.heap.size W0 wr) (fun i _=>fs.length-(intOf i).toNat)
 case atStart=>exact⟨0,Nat.zero_le _,rfl,fun _ _ h=>absurd h (by omega),Below.refl _ _⟩
 case round=>
  obtain⟨k,hk,rfl,hall,hbw⟩:=hrel
  have hB:=HB0.out.trans (hbw.mono HB0.out.size)
  have hc:=HF.out wr hbw
  have hk0:(0:Int)≤(k:Int):=by omega
  by_cases hlt:k<fs.length
  ·have hki:(k:Int)<(fs.length:Int):=by omega
   have hwk:IntKind.i64.wrap ((k:Int)+1)=(k:Int)+1:=IntWalk.i64_in _ (by omega)
   obtain⟨b,off,hpF,hcc,hbl,hcell⟩:=read_at frL_len (HR.out.below hB) hlt
   have hx0:=hcell 0 _ rfl
   have hx1:=hcell 1 _ rfl
   simp only[Nat.add_zero]at hx0
   clear hcell
   generalize hfk:fs[k]=f at hx0 hx1
   obtain⟨fp,fb,fi,fm,fr⟩:=f
   simp only at hx0 hx1
   rw[hpF]at hc
   by_cases hb0:fb=⟨#[]⟩
   ·subst hb0
    have hbz:=str_nil
    go_wp2_with fail
    go_ret
    exact⟨.inr ⟨k,hlt,rfl,by rw[hfk]⟩,hB⟩
   ·obtain⟨hb1,hb2,hb3⟩:=str_ne hb0
    go_wp2_with fail
    go_roundw
    case rel=>exact⟨k+1,by omega,by go_num,fun j hj hjk=>by rcases Nat.lt_or_eq_of_le (Nat.le_of_lt_succ hjk)with h5|h5;(· exact hall j hj h5);(· subst h5;rw[hfk];exact hb0),hbw⟩
    case measure=>simp[intOf];omega
  ·obtain rfl:k=fs.length:=by omega
   go_wp2_with fail
   go_ret
   exact⟨.inl ⟨rfl,fun j hj=>hall j hj hj⟩,hB⟩
theorem rpwith_any (s:Tx.St)(p:SP)(fs:List Fr)(hfl:fs.length≤100)(k:Nat)(hk:k<fs.length)(f:Fr)(w:World)(h:PoolR w s p fs):
 Calls Tryz.prog 62 #[storeV s p,k,.agg (frA f)] w fun e w'=>∃ q,e= .returned (storeV s q)∧PoolR w' s q (fs.set k f)∧Below w.heap.size w w':=by
 obtain⟨i0,hi0,hz0,hz1,hz2⟩:=info_parts info_fr
 have HP:=Hq h
 have HFN:=Hq h.fn
 clear h
 go_enter Tryz.func62,Tryz.ntmps62
 go_upto_region 1 with fail
 have H0:=nW3 w (stA s p) 37 (frA f) 81 #[(),(),(),"s",(),false,(),(),(),(),"","s",(),"s",()] 37
 obtain⟨W0,hW0⟩:=exW H0
 rw[← hW0]at H0 ⊢
 clear hW0
 have HP0:=Hq (HP.out.below H0.out.below)
 have hc:=show W0.cell? ⟨w.heap.size,11,none⟩=some (.slice p.F fs.length p.fc)from by rw[blkCell H0.out.get0,← HFN.out];rfl
 have hb1:=allocB W0 (.cells #[] 81)
 have hc1:(W0.alloc (.cells #[] 81)).cell? ⟨w.heap.size,11,none⟩=some (.slice p.F fs.length p.fc):=by rw[hb1.cell (p:=⟨w.heap.size,11,none⟩) (H0.out.lt (i:=0) (by simp))];exact hc
 have hpr:=HP0.out.fr.below hb1
 go_upto_region 2 with(at_builtin;refine listWants Kr fun K hK=>wp_appR (W0.alloc (.cells #[] 81)) (.tmp 8) (.tmp 11) 32 81 i0 (.agg #[(),"",(),false,()]) 5 48 Tryz.underlying32 hi0 hz0 hz1 hz2 rfl (by omega) rfl W0.heap.size _ 0 [] rfl (ownEmpty W0 81 5) p.F fs.length p.fc (fs.flatMap frL) rfl hpr (by rw[flat_len frL_len]) (frL_all fs) (by omega) (by omega) hb1.size ?_;intro v2 w2 ho hg hb;refine hK _ _ ?_)
 rw[List.nil_append,Nat.zero_add]at ho
 have hb2:=hb1.trans hb
 obtain⟨g,fc,rfl⟩:∃ g c,v2= .slice (some ⟨g,0,none⟩) fs.length c:=by
  rcases ho.2 with⟨_,h0⟩|⟨g,cap,cur,hv,_⟩
  ·omega
  ·exact⟨g,cap,hv⟩
 have H2:=Hq (H0.out.step hb2)
 have HP2:=Hq (HP0.out.below hb2)
 have hki0:(0:Int)≤(k:Int):=by omega
 have hki:(k:Int)<(fs.length:Int):=by omega
 obtain⟨htr,hop,hbp⟩:=own_put frL_len ho k hk f
 have htr2:w2.there g (k*5) (frA f).size:=htr
 have hgB:W0.heap.size≤g:=by obtain⟨cur,h1,_⟩:=own_blk ho;exact h1
 go_upto_region 3 with(first|(with_reducible refine lL H2.out.get1 Tryz.underlying81 ?_)|(with_reducible refine wpList_store_mid rfl 81 (.tmp 16) (.tmp 15) rfl g (k*5) (frA f) rfl rfl htr2 Kr Kr ?_))
 have hM:w.heap.size+3≤W0.heap.size:=H0.out.lt (i:=2) (by simp)
 have H3:=Hq (H2.out.under hM hbp)
 have hcx:=show(w2.setCells g (k*5) (frL f)).cell? ⟨w.heap.size,11,none⟩=some (.slice p.F p.fn p.fc)from by rw[blkCell H3.out.get0];rfl
 have hzx:=blkFrozen H3.out.get0 11
 have HO3:=Hq hop
 rw[show([.int .i64 f.page,.string f.bytes,.int .i64 f.pins,.bool f.mark,.int .i64 f.rc]:List Value)=frL f from rfl]
 generalize w2.setCells g (k*5) (frL f)=w3 at H3 hcx hzx HO3 ⊢
 try simp only[Act.put]
 clear htr htr2 hop hbp hc hc1 hb1 hpr ho hg hb hb2 H0 HP0 H2 HP2
 go_upto_region 4 with fail
 have H4:=Hq (show BxL w.heap.size w [((stA s {p with F:=some ⟨g,0,none⟩,fn:=fs.length,fc:=fc}),37),(frA f,81),(#[(),(),(),"s",(),false,(),(),(),(),"","s",(),"s",()],37)] (w3.setCell ⟨w.heap.size,11,none⟩ (.slice (some ⟨g,0,none⟩) fs.length fc))from H3.out.set 0 11 (.slice (some ⟨g,0,none⟩) fs.length fc) _ rfl)
 have HO4:=Hq (ownSet HO3.out ⟨w.heap.size,11,none⟩ (.slice (some ⟨g,0,none⟩) fs.length fc) (by show w.heap.size<W0.heap.size;omega))
 generalize w3.setCell ⟨w.heap.size,11,none⟩ (.slice (some ⟨g,0,none⟩) fs.length fc)=w4 at H4 HO4 ⊢
 clear hcx hzx
 go_wp2_with (first|(with_reducible refine lL H4.out.get0 Tryz.underlying37 ?_)|(with_reducible refine lS (stA s {p with F:=some ⟨g,0,none⟩,fn:=fs.length,fc:=fc}) H4.out.get2 ?_))
 have HF:=Hq (H4.out.row 2 (stA s {p with F:=some ⟨g,0,none⟩,fn:=fs.length,fc:=fc}) _ rfl).below
 refine bodyPost_ret (v:=.agg (stA s {p with F:=some ⟨g,0,none⟩,fn:=fs.length,fc:=fc})) (results_cell rfl _ _ rfl (load_whole (setRow_heap _ _ _ _ _ _ H4.out.get2) Tryz.underlying37 Kr Kr)) rfl ?_
 have hO5:=ownRowOff HO4.out (w.heap.size+2) (stA s {p with F:=some ⟨g,0,none⟩,fn:=fs.length,fc:=fc}) (by omega)
 have hl:(fs.set k f).length=fs.length:=List.length_set
 refine⟨{p with F:=some ⟨g,0,none⟩,fn:=fs.length,fc:=fc},rfl,⟨(HP.out.st.below HF.out).frames _ _ _,hl.symm,?_,?_⟩,HF.out⟩
 ·rw[hl]at hO5 ⊢
  exact own_reads hO5
 ·rw[hl]at hO5
  exact(NewT.own hO5).mono (Nat.zero_le _)
def StOut (x:Tx.St×Int)(p:SP)(w:World)(e:Ending)(w':World):Prop:=
 ∃ p':SP,e= .returned (.tuple #[storeV x.1 p',x.2])∧StoreR w' x.1 p'∧(p'.F=p.F∧p'.fn=p.fn∧p'.fc=p.fc)∧Below w.heap.size w w'
abbrev rbR (lsn prev txn kind next:Int):Rc.Rec:=⟨lsn,prev,txn,kind,0,next,0,Rc.noOp,0,0,Rc.noKey,[],[]⟩
end Go.Proofs.YtilakddepaplhaaGreat
namespace Tx
theorem ownS_none {s:St}{n:Int}{opn:Bool}{r:Rc.Rec}(h:(findS s n).2=false):ownS s n opn r=(s,21):=by unfold ownS;rw[if_pos h]
theorem ownS_done {s:St}{n:Int}{opn:Bool}{r:Rc.Rec}(h:(findS s n).2=true)(h2:opn=true)(h3:(findS s n).1.done=true):ownS s n opn r=(s,17):=by unfold ownS;rw[if_neg (by rw[h];simp),if_pos ⟨h2,h3⟩]
theorem ownS_go {s:St}{n:Int}{opn:Bool}{r:Rc.Rec}(h:(findS s n).2=true)(h2:¬ (opn=true∧(findS s n).1.done=true)):ownS s n opn r=putS s {r with txn:=n,prev:=(findS s n).1.last}:=by unfold ownS;rw[if_neg (by rw[h];simp),if_neg h2]
end Tx
namespace Go.Proofs.YtilakddepaplhaaGreat
open Go.RowKit
end Go.Proofs.YtilakddepaplhaaGreat
namespace Tx
theorem putS_next (s:St)(r:Rc.Rec):(putS s r).1.next=s.next:=by unfold putS;split<;>rfl
theorem beginS_ok {s:St}(h:(putS s (Rc.bare 1 0 0 s.next)).2=0):beginS s=({(putS s (Rc.bare 1 0 0 s.next)).1 with next:=(putS s (Rc.bare 1 0 0 s.next)).1.next+1},s.next,0):=by unfold beginS;rw[if_pos h,putS_next]
theorem beginS_no {s:St}(h:¬ (putS s (Rc.bare 1 0 0 s.next)).2=0):beginS s=(s,0,(putS s (Rc.bare 1 0 0 s.next)).2):=by unfold beginS;rw[if_neg h]
end Tx
namespace Go.Proofs.YtilakddepaplhaaGreat
open Go.RowKit
def BegOut (x:Tx.St×Int×Int)(p:SP)(w:World)(e:Ending)(w':World):Prop:=
 ∃ p':SP,e= .returned (.tuple #[storeV x.1 p',x.2.1,x.2.2])∧StoreR w' x.1 p'∧(p'.F=p.F∧p'.fn=p.fn∧p'.fc=p.fc)∧Below w.heap.size w w'
end Go.Proofs.YtilakddepaplhaaGreat
namespace Tx
open Lg
theorem logB_put {s:St}(h:LogB s)(r:Rc.Rec):LogB (putS s r).1:=by
 unfold putS
 split
 ·have he0:=h.e0
  have ht0:=h.t0
  have ht1:=h.t1
  have hs1:=h.s1
  have hn1:=h.n1
  have key:∀ (k:Nat) (t:ByteArray),t.size=k→s.log.end_+(k:Int)≤s.log.n*128→LogB {s with log:={s.log with end_:=s.log.end_+(k:Int),tail:=s.log.tail++t},txns:=noteT s.txns {r with lsn:=(appendD s.log r).2.1}}:=by
   intro k t hk hle
   refine⟨?_,?_,?_,?_,h.f,h.n0,h.n1,h.s0,?_⟩
   ·show 0≤s.log.end_+(k:Int);omega
   ·show s.log.end_+(k:Int)≤128000;omega
   ·show((s.log.tail++t).size:Int)≤s.log.end_+(k:Int);rw[ByteArray.size_append,hk];omega
   ·show(s.log.end_+(k:Int))%128≤((s.log.tail++t).size:Int);rw[ByteArray.size_append,hk];omega
   ·show s.log.safe≤s.log.end_+(k:Int);omega
  rename_i hz
  by_cases h1:Rc.Right {r with lsn:=s.log.end_+1}
  ·by_cases h2:s.log.n*128-((putR {r with lsn:=s.log.end_+1}).length:Int)<s.log.end_
   ·exfalso
    unfold appendD at hz;simp only at hz;rw[if_neg (fun hn=>hn h1),if_pos h2]at hz;exact absurd hz (by show ¬ (18:Int)=0;decide)
   ·have e:=append_okT (l:=s.log) (r:=r) h1 h2
    have hk:=key (putR {r with lsn:=s.log.end_+1}).length ⟨(putR {r with lsn:=s.log.end_+1}).toArray⟩ (by show(putR {r with lsn:=s.log.end_+1}).toArray.size=_;simp) (by omega)
    have e1:(appendD s.log r).1=_:=congrArg (·.1) e
    simp only at e1
    rw[e1]
    exact hk
  ·exfalso
   unfold appendD at hz;simp only at hz;rw[if_pos h1]at hz;exact absurd hz (by show ¬ (1:Int)=0;decide)
 ·exact h
theorem logB_own {s:St}(h:LogB s)(n:Int)(opn:Bool)(r:Rc.Rec):LogB (ownS s n opn r).1:=by
 unfold ownS
 split
 ·exact h
 ·split
  ·exact h
  ·exact logB_put h _
theorem logB_force {s:St}(h:LogB s):LogB (forceS s).1:=by
 have key:(forceD s.disk s.log).2.1=s.log∨(forceD s.disk s.log).2.1=forcedL s.log:=by
  unfold forceD
  split
  ·exact .inl rfl
  ·simp only
   split
   ·exact .inr rfl
   ·exact .inl rfl
 have he0:=h.e0
 have ht0:=h.t0
 have ht1:=h.t1
 rcases key with k|k
 ·exact⟨by show 0≤(forceD s.disk s.log).2.1.end_;rw[k];exact h.e0,by show(forceD s.disk s.log).2.1.end_≤_;rw[k];exact h.e1,by show((forceD s.disk s.log).2.1.tail.size:Int)≤(forceD s.disk s.log).2.1.end_;rw[k];exact h.t0,by show(forceD s.disk s.log).2.1.end_%128≤((forceD s.disk s.log).2.1.tail.size:Int);rw[k];exact h.t1,by show(forceD s.disk s.log).2.1.from_=1;rw[k];exact h.f,by show 0≤(forceD s.disk s.log).2.1.n;rw[k];exact h.n0,by show(forceD s.disk s.log).2.1.n≤1000;rw[k];exact h.n1,by show 0≤(forceD s.disk s.log).2.1.safe;rw[k];exact h.s0,by show(forceD s.disk s.log).2.1.safe≤(forceD s.disk s.log).2.1.end_;rw[k];exact h.s1⟩
 ·have hsz:((forcedL s.log).tail.size:Int)=s.log.end_%128:=by
   unfold forcedL
   show((s.log.tail.extract (s.log.tail.size-(s.log.end_%128).toNat) s.log.tail.size).size:Int)=_
   rw[ByteArray.size_extract]
   omega
  exact⟨by show 0≤(forceD s.disk s.log).2.1.end_;rw[k];exact h.e0,by show(forceD s.disk s.log).2.1.end_≤_;rw[k];exact h.e1,by show((forceD s.disk s.log).2.1.tail.size:Int)≤(forceD s.disk s.log).2.1.end_;rw[k,hsz];show _≤s.log.end_;omega,by show(forceD s.disk s.log).2.1.end_%128≤((forceD s.disk s.log).2.1.tail.size:Int);rw[k,hsz];exact Int.le_refl _,by show(forceD s.disk s.log).2.1.from_=1;rw[k];exact h.f,by show 0≤(forceD s.disk s.log).2.1.n;rw[k];exact h.n0,by show(forceD s.disk s.log).2.1.n≤1000;rw[k];exact h.n1,by show 0≤(forceD s.disk s.log).2.1.safe;rw[k];exact h.e0,by show(forceD s.disk s.log).2.1.safe≤(forceD s.disk s.log).2.1.end_;rw[k];exact Int.le_refl _⟩
theorem putS_len (s:St)(r:Rc.Rec):(putS s r).1.txns.length≤s.txns.length+1:=by
 unfold putS
 split
 ·exact noteT_len _ _
 ·exact Nat.le_succ _
theorem ownS_len (s:St)(n:Int)(opn:Bool)(r:Rc.Rec):(ownS s n opn r).1.txns.length≤s.txns.length+1:=by
 unfold ownS
 split
 ·simp
 ·split
  ·simp
  ·exact putS_len _ _
theorem ownS_disk (s:St)(n:Int)(opn:Bool)(r:Rc.Rec):(ownS s n opn r).1.disk=s.disk:=by
 unfold ownS
 split
 ·rfl
 ·split
  ·rfl
  ·unfold putS;split<;>rfl
theorem commitS_no {s:St}{n:Int}(h:¬ (ownS s n true (Rc.bare 5 0 0 0)).2=0):commitS s n=ownS s n true (Rc.bare 5 0 0 0):=by unfold commitS;rw[if_neg h]
theorem commitS_stop {s:St}{n:Int}(h:(ownS s n true (Rc.bare 5 0 0 0)).2=0)(h2:¬ (forceS (ownS s n true (Rc.bare 5 0 0 0)).1).2=0):commitS s n=forceS (ownS s n true (Rc.bare 5 0 0 0)).1:=by unfold commitS;rw[if_pos h,if_neg h2]
theorem commitS_go {s:St}{n:Int}(h:(ownS s n true (Rc.bare 5 0 0 0)).2=0)(h2:(forceS (ownS s n true (Rc.bare 5 0 0 0)).1).2=0):commitS s n=closeS (forceS (ownS s n true (Rc.bare 5 0 0 0)).1).1 n:=by unfold commitS;rw[if_pos h,if_pos h2]
end Tx
namespace Go.Proofs.YtilakddepaplhaaGreat
open Go.RowKit
structure Cl where
 N:Int
 P:Lg.Dk→Lg.Lo→Prop
 app:∀ d l r,P d l→P d (Lg.appendD l r).1
 frc:∀ d l,P d l→P (Lg.forceD d l).1 (Lg.forceD d l).2.1
 wr:∀ d l a b,1+N≤a→P d l→P (Lg.writeD d a b).1 l
structure LogI (cl:Cl) (s:Tx.St):Prop where
 b:Tx.LogB s
 al:Lg.Al s.log
 n:s.zlog=cl.N
 ev:cl.P s.disk s.log
variable {cl : Cl}
theorem app_fail (l:Lg.Lo)(r:Rc.Rec)(h:¬ (Lg.appendD l r).2.2=0):(Lg.appendD l r).1=l:=by
 unfold Lg.appendD at h ⊢
 simp only at h ⊢
 split at h
 ·rename_i h1;rw[if_pos h1]
 ·rename_i h1
  rw[if_neg h1]
  split at h
  ·rename_i h2;rw[if_pos h2]
  ·exact absurd rfl h
theorem LogI.put {s:Tx.St}(h:LogI cl s)(r:Rc.Rec):LogI cl {s with log:=(Lg.appendD s.log r).1}:=by
 refine⟨?_,Tx.al_append r h.al,h.n,cl.app _ _ r h.ev⟩
 by_cases h0:(Lg.appendD s.log r).2.2=0
 ·have h1:=Tx.logB_put h.b r
  unfold Tx.putS at h1
  rw[if_pos h0]at h1
  exact⟨h1.e0,h1.e1,h1.t0,h1.t1,h1.f,h1.n0,h1.n1,h1.s0,h1.s1⟩
 ·rw[app_fail _ _ h0];exact h.b
theorem lappend_any (s:Tx.St)(h:LogI cl s)(r:Rc.Rec)(h1:r.txns=[])(h2:r.dirty=[])(w:World):Calls Tryz.prog 32 #[logV s.log,.agg (recA r (.slice none 0 0) (.slice none 0 0))] w (AppOut (Lg.appendD s.log r) w):=by
 have hb:=h.b
 have h0:=rappend_any s.log hb.e0 (by have:=hb.e1;omega) hb.n0 (by have:=hb.n1;omega) (by have:=hb.t0;have:=hb.e1;omega) r none none 0 0 w (recR_nil r w h1 h2)
 simp only[h1,h2,List.length_nil]at h0
 exact h0
theorem rlogged_any (s:Tx.St)(p:SP)(h:LogI cl s)(r:Rc.Rec)(h1:r.txns=[])(h2:r.dirty=[])(w:World):
 Calls Tryz.prog 59 #[storeV s p,.agg (recA r (.slice none 0 0) (.slice none 0 0))] w fun e w'=>e= .returned (.tuple #[storeV {s with log:=(Lg.appendD s.log r).1} p,.int .i64 (Lg.appendD s.log r).2.1,.int .i64 (Lg.appendD s.log r).2.2])∧Below w.heap.size w w':=by
 have HA:=Hq (fun W=>lappend_any s h r h1 h2 W)
 generalize Lg.appendD s.log r=x at HA ⊢
 go_enter Tryz.func59,Tryz.ntmps59
 go_upto_region 1 with fail
 have H0:=nW3 w (stA s p) 37 (recA r (.slice none 0 0) (.slice none 0 0)) 55 #[(),(),(),"s",(),false,(),(),(),(),"","s",(),"s",()] 37
 obtain⟨W0,hW0⟩:=exW H0
 rw[← hW0]at H0 ⊢
 clear hW0
 go_upto_region 2 with(first
  |(with_reducible refine lP #[s.log.from_,s.log.n,s.log.end_,s.log.safe,s.log.tail] H0.out.get0 Tryz.underlying31 ?_)
  |(with_reducible refine lL H0.out.get1 Tryz.underlying55 ?_)
  |(go_at_call 32;(with_reducible refine(HA.out _).mono ?_);rintro e w1 ⟨rfl,hb1⟩;have H1:=Hq (H0.out.step hb1);clear hb1)
  |(with_reducible refine sN #[x.1.from_,x.1.n,x.1.end_,x.1.safe,x.1.tail] ?_))
 have H2:=Hq (H1.out.step (allocB w1 (.cells #[x.1.from_,x.1.n,x.1.end_,x.1.safe,x.1.tail] 31)))
 have HG:=Hq (heap_alloc_new w1 (.cells #[x.1.from_,x.1.n,x.1.end_,x.1.safe,x.1.tail] 31))
 have hlt:w.heap.size+2<w1.heap.size:=H1.out.lt (i:=2) (by simp)
 obtain⟨g,hg⟩:=ex w1.heap.size
 obtain⟨w2,hw2⟩:=ex (w1.alloc (.cells #[x.1.from_,x.1.n,x.1.end_,x.1.safe,x.1.tail] 31))
 rw[← hg,← hw2]at HG
 rw[← hw2]at H2
 rw[← hw2,← hg]
 rw[← hg]at hlt
 clear hw2 hg H0 H1
 try simp only[Act.put]
 go_upto_region 3 with(first
  |(with_reducible refine lL HG.out Tryz.underlying31 ?_)
  |(with_reducible refine lU #[x.1.from_,x.1.n,x.1.end_,x.1.safe,x.1.tail] (stA {s with log:=x.1} p) H2.out.get0 ?_))
 have H3:=Hq (H2.out.row 0 (stA {s with log:=x.1} p) _ rfl)
 have hz:=H3.out.get0
 go_wp2_with (first
  |(with_reducible refine lL H3.out.get0 Tryz.underlying37 ?_)
  |(with_reducible refine lS (stA {s with log:=x.1} p) H3.out.get2 ?_))
 refine bodyPost_ret (v:=.tuple #[.agg (stA {s with log:=x.1} p),x.2.1,x.2.2]) (results_cell3 rfl _ _ rfl (load_whole (setRow_heap _ _ _ _ _ _ H3.out.get2) Tryz.underlying37 Kr Kr) rfl rfl) rfl ?_
 exact⟨rfl,(H3.out.row 2 (stA {s with log:=x.1} p) _ rfl).below⟩
variable {cl : Cl}
structure FrK (fs fs':List Fr):Prop where
 len:fs'.length=fs.length
 at_:∀ i (h:i<fs.length) (h':i<fs'.length),fs'[i].page=fs[i].page∧fs'[i].bytes=fs[i].bytes
theorem FrK.refl (fs:List Fr):FrK fs fs:=⟨rfl,fun _ _ _=>⟨rfl,rfl⟩⟩
theorem FrK.set (fs:List Fr)(k:Nat)(hk:k<fs.length)(f:Fr)(h1:f.page=fs[k].page)(h2:f.bytes=fs[k].bytes):FrK fs (fs.set k f):=⟨List.length_set,fun i h h'=>by
 rw[List.getElem_set]
 split
 ·rename_i e;subst e;exact⟨h1,h2⟩
 ·exact⟨rfl,rfl⟩⟩
theorem PoolR.log {w:World}{s:Tx.St}{p:SP}{fs:List Fr}(h:PoolR w s p fs)(l:Lg.Lo):PoolR w {s with log:=l} p fs:=⟨⟨h.st.dk,h.st.dt,h.st.tx,h.st.tt⟩,h.fn,h.fr,h.ft⟩
theorem PoolR.rowB {w w':World}{s:Tx.St}{p:SP}{fs:List Fr}(h:PoolR w s p fs)(hb:Below w.heap.size w w'):PoolR w' s p fs:=h.below hb
def ImOut (cl:Cl)(s:Tx.St)(fs:List Fr)(w:World)(e:Ending)(w':World):Prop:=
 ∃ (l:Lg.Lo) (q:SP) (fs':List Fr) (x:Int),e= .returned (.tuple #[storeV {s with log:=l} q,x])∧PoolR w' {s with log:=l} q fs'∧LogI cl {s with log:=l}∧FrK fs fs'∧Below w.heap.size w w'
theorem rimage_any (s:Tx.St)(p:SP)(fs:List Fr)(hl:LogI cl s)(hfl:fs.length≤100)(k:Nat)(hk:k<fs.length)(w:World)(h:PoolR w s p fs):
 Calls Tryz.prog 58 #[storeV s p,k] w (ImOut cl s fs w):=by
 have HP:=Hq h
 have HLI:=Hq hl
 have HFN:=Hq h.fn
 obtain⟨f,hf⟩:=ex (fs[k])
 have HFK:=Hq hf
 have HLO:=Hq (fun W=>show Calls Tryz.prog 59 #[storeV s p,.agg #[(),(),(),.int .i64 8,f.page,(),(),.int .i64 7,(),"",f.bytes,(),(),"",(),(),"s","s"]] W _ from rlogged_any s p hl ⟨0,0,0,8,f.page,0,0,⟨7,0,⟨#[]⟩,f.bytes⟩,0,0,Rc.noKey,[],[]⟩ rfl rfl W)
 have HLP:=Hq (hl.put ⟨0,0,0,8,f.page,0,0,⟨7,0,⟨#[]⟩,f.bytes⟩,0,0,Rc.noKey,[],[]⟩)
 generalize Lg.appendD s.log ⟨0,0,0,8,f.page,0,0,⟨7,0,⟨#[]⟩,f.bytes⟩,0,0,Rc.noKey,[],[]⟩=x at HLO HLP
 obtain⟨l2,n2,e2⟩:=x
 simp only at HLO HLP
 have HWI:=Hq (fun W (hb:Below w.heap.size w W)=>rpwith_any {s with log:=l2} p fs hfl k hk {f with rc:=n2} W ((h.below hb).log l2))
 have HSM:=Hq (fun W (hb:Below w.heap.size w W) (x:Int)=>show ImOut cl s fs w (.returned (.tuple #[storeV s p,x])) W from⟨s.log,p,fs,x,rfl,h.below hb,hl,FrK.refl fs,hb⟩)
 obtain⟨b,off,hpF,hcc,hbl,hcell⟩:=read_at frL_len h.fr hk
 rw[← hf]at hcell
 have HCE:=Hq (fun u (hu:Below w.heap.size w u)=>show u.rangeAt b (off+k*5) (frL f)from fun i v hv=>by rw[hu.cell (p:=⟨b,off+k*5+i,none⟩) hbl];exact hcell i v hv)
 have hki0:(0:Int)≤(k:Int):=by omega
 have hki:(k:Int)<(fs.length:Int):=by omega
 have HPF:=Hq hpF
 clear h hl hf hcell hcc hbl hpF
 go_enter Tryz.func58,Tryz.ntmps58
 go_upto_region 1 with fail
 have H0:=nW2 w (stA s p) 37 #[(),(),(),"s",(),false,(),(),(),(),"","s",(),"s",()] 37
 obtain⟨W0,hW0⟩:=exW H0
 rw[← hW0]at H0 ⊢
 clear hW0
 have hc:=show W0.cell? ⟨w.heap.size,11,none⟩=some (.slice (some ⟨b,off,none⟩) fs.length p.fc)from by rw[blkCell H0.out.get0,← HPF.out,← HFN.out];rfl
 have HC0:=Hq (show W0.rangeAt b (off+k*5) (frL f)from HCE.out W0 H0.out.below)
 go_upto_region 2 with(first
  |(refine listWants Kr fun K hK=>wp_load_mid 81 (.tmp 14) rfl b (off+k*5) rfl (frL f) _ HC0.out Tryz.underlying81 Kr Kr (hK _ _ ?_))
  |(with_reducible refine sN (frA f) ?_))
 have H1:=Hq (H0.out.step (allocB W0 (.cells (frA f) 81)))
 have HG:=Hq (heap_alloc_new W0 (.cells (frA f) 81))
 have hlt:w.heap.size+1<W0.heap.size:=H0.out.lt (i:=1) (by simp)
 obtain⟨g,hg⟩:=ex W0.heap.size
 obtain⟨w1,hw1⟩:=ex (W0.alloc (.cells (frA f) 81))
 rw[← hg,← hw1]at HG
 rw[← hw1]at H1
 rw[← hw1,← hg]
 rw[← hg]at hlt
 clear hw1 hg H0 HC0 hc HCE
 try simp only[Act.put]
 have hc4:=show w1.cell? ⟨g,4,none⟩=some (.int .i64 f.rc)from by rw[blkCell HG.out];rfl
 by_cases hrc:0<f.rc
 ·go_wp2_with (first|(with_reducible refine lL H1.out.get0 Tryz.underlying37 ?_)|(with_reducible refine lS (stA s p) H1.out.get1 ?_))
  refine bodyPost_ret (v:=.tuple #[.agg (stA s p),()]) (results_cell2 rfl _ _ rfl (load_whole (setRow_heap _ _ _ _ _ _ H1.out.get1) Tryz.underlying37 Kr Kr) rfl) rfl ?_
  exact HSM.out _ (H1.out.row 1 (stA s p) _ rfl).below 0
 ·have hc0:=show w1.cell? ⟨g,0,none⟩=some (.int .i64 f.page)from by rw[blkCell HG.out];rfl
  have hc1:=show w1.cell? ⟨g,1,none⟩=some (.string f.bytes)from by rw[blkCell HG.out];rfl
  go_upto_region 5 with(first
   |(with_reducible refine lL H1.out.get0 Tryz.underlying37 ?_)
   |(go_at_call 59;(refine(HLO.out _).mono ?_);rintro e w2 ⟨rfl,hb2⟩)
   |(with_reducible refine sN (stA {s with log:=l2} p) ?_))
  have hb3:=hb2.trans ((allocB w2 (.cells (stA {s with log:=l2} p) 37)).mono hb2.size)
  have H3:=Hq (H1.out.step hb3)
  have HG3:=Hq (blkOld HG.out hb3)
  have HG7:=Hq (heap_alloc_new w2 (.cells (stA {s with log:=l2} p) 37))
  have hlt7:g<w2.heap.size:=by have:=hb2.size;have:=heapLt HG.out;omega
  obtain⟨g7,hg7⟩:=ex w2.heap.size
  obtain⟨w3,hw3⟩:=ex (w2.alloc (.cells (stA {s with log:=l2} p) 37))
  rw[← hg7,← hw3]at HG7
  rw[← hw3]at H3 HG3
  rw[← hw3,← hg7]
  rw[← hg7]at hlt7
  clear hw3 hg7 hb2 hb3 H1 HG hc0 hc1 hc4 HLO
  try simp only[Act.put]
  by_cases he:e2=0
  ·subst he
   have hcx:=show w3.cell? ⟨g,4,none⟩=some (.int .i64 f.rc)from by rw[blkCell HG3.out];rfl
   have hzx:=blkFrozen HG3.out 4
   go_upto_region 8 with fail
   have HG4:=Hq (show(w3.setCell ⟨g,4,none⟩ (.int .i64 n2)).heap[g]? =some (.cells (frA {f with rc:=n2}) 81 (0,0))from by have:=blkSet 4 HG3.out (.int .i64 n2);simpa using this)
   have HS4:=Hq (show(w3.setCell ⟨g,4,none⟩ (.int .i64 n2)).heap[g7]? =some (.cells (stA {s with log:=l2} p) 37 (0,0))from by rw[Below.heap_setCell _ _ _ _ (by show g7≠g;omega)];exact HG7.out)
   have H4:=Hq (H3.out.under (M:=g) (by have:=hlt;simp;omega) ((Below.refl _ w3).setCell (p:=⟨g,4,none⟩) (Nat.le_refl _) (.int .i64 n2)))
   generalize w3.setCell ⟨g,4,none⟩ (.int .i64 n2)=w4 at HG4 HS4 H4 ⊢
   clear hcx hzx HG3 HG7 H3
   go_wp2_with (first
    |(with_reducible refine lL HS4.out Tryz.underlying37 ?_)
    |(with_reducible refine lL HG4.out Tryz.underlying81 ?_)
    |(go_at_call 62;(refine(HWI.out _ H4.out.below).mono ?_);rintro e w5 ⟨q,rfl,hpq,hb5⟩;have H5:=Hq (H4.out.step hb5))
    |(with_reducible refine lS (stA {s with log:=l2} q) H5.out.get1 ?_))
   refine bodyPost_ret (v:=.tuple #[.agg (stA {s with log:=l2} q),()]) (results_cell2 rfl _ _ rfl (load_whole (setRow_heap _ _ _ _ _ _ H5.out.get1) Tryz.underlying37 Kr Kr) rfl) rfl ?_
   exact⟨l2,q,_,0,rfl,hpq.other H5.out.get1 (by decide) (by decide) (by decide) _,HLP.out,FrK.set fs k hk {f with rc:=n2} (by rw[← HFK.out]) (by rw[← HFK.out]),(H5.out.row 1 (stA {s with log:=l2} q) _ rfl).below⟩
  ·have heb:(e2 != 0)=true:=bne_iff_ne.2 he
   go_wp2_with (first|(with_reducible refine lL H3.out.get0 Tryz.underlying37 ?_)|(with_reducible refine lS (stA s p) H3.out.get1 ?_))
   refine bodyPost_ret (v:=.tuple #[.agg (stA s p),e2]) (results_cell2 rfl _ _ rfl (load_whole (setRow_heap _ _ _ _ _ _ H3.out.get1) Tryz.underlying37 Kr Kr) rfl) rfl ?_
   exact HSM.out _ (H3.out.row 1 (stA s p) _ rfl).below e2
theorem rnoted41_any (s:Tx.St)(p:SP)(fs:List Fr)(hts:s.txns.length≤800000)(k:Nat)(hk:k<s.txns.length)(r:Rc.Rec)(hr:r.kind=2)(w:World)(h:PoolR w s p fs):
 Calls Tryz.prog 61 #[storeV s p,k,.agg (recA r (.slice none 0 0) (.slice none 0 0))] w fun e w'=>∃ (ts:List Rc.TxnAt) (q:SP),e= .returned (storeV {s with txns:=ts} q)∧PoolR w' {s with txns:=ts} q fs∧ts.length=s.txns.length∧Below w.heap.size w w':=by
 obtain⟨i0,hi0,hz0,hz1,hz2⟩:=info_parts info_txn
 have HP:=Hq h
 have hkb:(r.kind==3)=false:=by rw[hr];rfl
 clear h hr
 have hki0:(0:Int)≤(k:Int):=by omega
 have hki:(k:Int)<(s.txns.length:Int):=by omega
 go_enter Tryz.func61,Tryz.ntmps61
 go_upto_region 1 with fail
 have H0:=nW3 w (stA s p) 37 (recA r (.slice none 0 0) (.slice none 0 0)) 55 #[(),(),(),"s",(),false,(),(),(),(),"","s",(),"s",()] 37
 obtain⟨W0,hW0⟩:=exW H0
 rw[← hW0]at H0 ⊢
 clear hW0
 have HP0:=Hq (HP.out.below H0.out.below)
 have hb1:=allocB W0 (.cells #[] 92)
 have hc1:(W0.alloc (.cells #[] 92)).cell? ⟨w.heap.size,13,none⟩=some (.slice p.T s.txns.length p.tc):=by rw[hb1.cell (p:=⟨w.heap.size,13,none⟩) (H0.out.lt (i:=0) (by simp)),blkCell H0.out.get0];rfl
 have hpr:=HP0.out.st.tx.below hb1
 go_upto_region 2 with(at_builtin;refine listWants Kr fun K hK=>wp_appR (W0.alloc (.cells #[] 92)) (.tmp 8) (.tmp 10) 35 92 i0 (.agg #[(),(),(),false]) 4 32 Tryz.underlying35 hi0 hz0 hz1 hz2 rfl (by omega) rfl W0.heap.size _ 0 [] rfl (ownEmpty W0 92 4) p.T s.txns.length p.tc (s.txns.flatMap txC) rfl hpr (by rw[flat_len txC_len]) (txC_all s.txns) (by omega) (by omega) hb1.size ?_;intro v2 w2 ho hg hb;refine hK _ _ ?_)
 rw[List.nil_append,Nat.zero_add]at ho
 obtain⟨g,c2,rfl,hgB⟩:=ownSome ho (by omega)
 have hM:w.heap.size+3≤W0.heap.size:=H0.out.lt (i:=2) (by simp)
 have hSn:BxL w.heap.size w [((stA s p),37),((recA r (.slice none 0 0) (.slice none 0 0)),55),(#[(),(),(),"s",(),false,(),(),(),(),"","s",(),"s",()],37)] w2.drew:=(H0.out.step (hb1.trans hb)).drew
 have hO:World.ownsRow w2.drew W0.heap.size 92 4 (.slice (some ⟨g,0,none⟩) s.txns.length c2) s.txns.length (s.txns.flatMap txC):=ownBelow ho (Below.refl _ w2).drew
 obtain⟨y1,hy1⟩:=ex ({s.txns[k]with last:=r.lsn}:Rc.TxnAt)
 obtain⟨y2,hy2⟩:=ex ({y1 with next:=r.lsn}:Rc.TxnAt)
 have hk1:k<(s.txns.set k y1).length:=by rw[List.length_set];exact hk
 have hy2':txC y2=(txC (s.txns.set k y1)[k]).set 2 (.int .i64 r.lsn):=by rw[List.getElem_set_self,hy2];rfl
 have hy1':txC y1=(txC s.txns[k]).set 1 (.int .i64 r.lsn):=by rw[hy1];rfl
 clear hy1 hy2 hc1 hpr hg hb hb1 ho H0 HP0
 have Hy:=Hq (fun(u:World) (hSu:BxL w.heap.size w [((stA s p),37),((recA r (.slice none 0 0) (.slice none 0 0)),55),(#[(),(),(),"s",(),false,(),(),(),(),"","s",(),"s",()],37)] u)=>(show u.cell? ⟨w.heap.size+1,0,none⟩=some (.int .i64 r.lsn)from by rw[blkCell hSu.get1];rfl))
 refine rgH (S:=(fun u=>BxL w.heap.size w [((stA s p),37),((recA r (.slice none 0 0) (.slice none 0 0)),55),(#[(),(),(),"s",(),false,(),(),(),(),"","s",(),"s",()],37)] u)) (fun hHeld=>?_)
 generalize w2.drew=w9 at hSn hO ⊢
 refine tkP 0 ?_;refine tkP 1 ?_;refine tkP 2 ?_;refine tkP 3 ?_;refine tkP 4 ?_;refine tkP 5 ?_;refine tkP 6 ?_;refine tkP 7 ?_;refine tkP 8 ?_;refine tkP 9 ?_
 refine rdP 10 fun K hK=>?_
 obtain⟨hcq,hzq,hOq⟩:=rowSet hO rfl k hk 1 (by omega) (.int .i64 r.lsn) y1 hy1'
 have hSm:=hSn.under (M:=g) (by have:=hgB;simp;omega) ((Below.refl _ w9).setCell (p:=⟨g,k*4+1,none⟩) (Nat.le_refl _) (.int .i64 r.lsn))
 go_simp
 clear hSn hO hcq hzq
 have hSn:=hSm
 have hO:=hOq
 clear hSm hOq
 generalize w9.setCell ⟨g,k*4+1,none⟩ (.int .i64 r.lsn)=w3 at hSn hO ⊢
 refine hKo hK (fun hHeld=>?_)
 clear hK K
 refine tkP 11 ?_;refine tkP 12 ?_
 refine rdP 13 fun K hK=>?_
 obtain⟨hcq,hzq,hOq⟩:=rowSet hO (by rw[List.length_set]) k hk1 2 (by omega) (.int .i64 r.lsn) y2 hy2'
 have hSm:=hSn.under (M:=g) (by have:=hgB;simp;omega) ((Below.refl _ w3).setCell (p:=⟨g,k*4+2,none⟩) (Nat.le_refl _) (.int .i64 r.lsn))
 go_simp
 clear hSn hO hcq hzq
 have hSn:=hSm
 have hO:=hOq
 clear hSm hOq
 generalize w3.setCell ⟨g,k*4+2,none⟩ (.int .i64 r.lsn)=w4 at hSn hO ⊢
 refine hKo hK (fun hHeld=>?_)
 clear hK K
 refine wpAnyH_done Kr ?_ _
 obtain⟨M,hMe⟩:=ex ((s.txns.set k y1).set k y2)
 rw[← hMe]at hO
 clear hHeld
 have hlen:M.length=s.txns.length:=by rw[hMe,List.length_set,List.length_set]
 have HS:=Hq hSn
 have HOw:=Hq hO
 have HLN:=Hq hlen
 clear hSn hO hMe hlen hk1 hy2' hy1'
 have hck:=show w4.cell? ⟨w.heap.size+1,3,none⟩=some (.int .i64 r.kind)from by rw[blkCell HS.out.get1];rfl
 have hcx:=show w4.cell? ⟨w.heap.size,13,none⟩=some (.slice p.T s.txns.length p.tc)from by rw[blkCell HS.out.get0];rfl
 have hzx:=blkFrozen HS.out.get0 13
 go_upto_region 6 with fail
 have HL:=HLN.out
 have H5:=Hq (show BxL w.heap.size w [((stA {s with txns:=M} {p with T:=some ⟨g,0,none⟩,tc:=c2}),37),((recA r (.slice none 0 0) (.slice none 0 0)),55),(#[(),(),(),"s",(),false,(),(),(),(),"","s",(),"s",()],37)] (w4.setCell ⟨w.heap.size,13,none⟩ (.slice (some ⟨g,0,none⟩) s.txns.length c2))from by have h5:=HS.out.set 0 13 (.slice (some ⟨g,0,none⟩) s.txns.length c2) _ rfl;rw[← HL]at h5 ⊢;exact h5)
 have HO5:=Hq (ownSet HOw.out ⟨w.heap.size,13,none⟩ (.slice (some ⟨g,0,none⟩) s.txns.length c2) (by show w.heap.size<W0.heap.size;omega))
 generalize w4.setCell ⟨w.heap.size,13,none⟩ (.slice (some ⟨g,0,none⟩) s.txns.length c2)=w5 at H5 HO5 ⊢
 clear hcx hzx hck HS HOw HL
 go_wp2_with (first|(with_reducible refine lL H5.out.get0 Tryz.underlying37 ?_)|(with_reducible refine lS (stA {s with txns:=M} {p with T:=some ⟨g,0,none⟩,tc:=c2}) H5.out.get2 ?_))
 have HF:=Hq (H5.out.row 2 (stA {s with txns:=M} {p with T:=some ⟨g,0,none⟩,tc:=c2}) _ rfl).below
 refine bodyPost_ret (v:=.agg (stA {s with txns:=M} {p with T:=some ⟨g,0,none⟩,tc:=c2})) (results_cell rfl _ _ rfl (load_whole (setRow_heap _ _ _ _ _ _ H5.out.get2) Tryz.underlying37 Kr Kr)) rfl ?_
 have hO6:=ownRowOff HO5.out (w.heap.size+2) (stA {s with txns:=M} {p with T:=some ⟨g,0,none⟩,tc:=c2}) (by omega)
 rw[← HLN.out]at hO6
 have hq:=HP.out.below HF.out
 exact⟨M,{p with T:=some ⟨g,0,none⟩,tc:=c2},rfl,⟨⟨hq.st.dk,hq.st.dt,own_reads hO6,(NewT.own hO6).mono (Nat.zero_le _)⟩,hq.fn,hq.fr,hq.ft⟩,HLN.out,HF.out⟩
structure DkI (d:Lg.Dk):Prop where
 sz:∀ x∈d.sectors,x.size=128
 lb: -9223372036854775808≤d.left∧d.left≤9223372036854775807
theorem DkI.write {d:Lg.Dk}(h:DkI d)(a:Int)(b:ByteArray):DkI (Lg.writeD d a b).1∧(Lg.writeD d a b).1.sectors.length=d.sectors.length:=by
 unfold Lg.writeD
 split
 ·exact⟨h,rfl⟩
 ·split
  ·exact⟨h,rfl⟩
  ·rename_i hb
   split
   ·exact⟨⟨h.sz,h.lb⟩,rfl⟩
   ·refine⟨⟨fun x hx=>?_,?_⟩,by simp⟩
    ·rcases List.mem_or_eq_of_mem_set hx with h1|h1
     ·exact h.sz x h1
     ·rw[h1]
      by_cases h2:b.size=128
      ·exact h2
      ·exact absurd (fun hn=>h2 hn.2) hb
    ·have:=h.lb
     show _≤(if 0<d.left then d.left-1 else d.left)∧(if 0<d.left then d.left-1 else d.left)≤_
     split<;>omega
theorem readD_size {d:Lg.Dk}(h:DkI d)(a:Int)(h0:(Lg.readD d a).2=0):(Lg.readD d a).1.size=128:=by
 unfold Lg.readD at h0 ⊢
 split at h0
 ·exact absurd h0 (by decide)
 ·rename_i h1
  rw[if_neg h1]
  split at h0
  ·rename_i h2
   rw[if_pos h2]
   unfold Lg.secAt
   obtain⟨h3,h4⟩:=h2
   have h5:a.toNat<d.sectors.length:=by omega
   rw[List.getElem?_eq_getElem h5]
   exact h.sz _ (List.getElem_mem h5)
  ·exact absurd h0 (by decide)
theorem rreadpage_any (d:Lg.Dk)(hd:DkI d)(A:Option Addr)(c:Nat)(a:Int)(ha:0≤a∧a≤1000)(w:World)(h:DiskR w d A c):
 Calls Tryz.prog 145 #[diskV d A c,a] w fun e w'=>∃ (b:ByteArray) (x:Int),e= .returned (.tuple #[b,x])∧b.size≤512∧(x=0→b.size=512)∧Below w.heap.size w w':=by
 have HRD:=Hq (fun k W (hb:Below w.heap.size w W)=>rdread_any d A c k W (h.below hb))
 have HSZ:=Hq (fun k=>readD_size hd k)
 clear h hd
 go_enter Tryz.func145,Tryz.ntmps145
 go_upto_region 1 with fail
 have H0:=nW1 w #[.slice A d.sectors.length c,d.left,d.down] 29
 obtain⟨W0,hW0⟩:=exW H0
 rw[← hW0]at H0 ⊢
 clear hW0
 have HG:=Hq H0.out.get0
 have HB0:=Hq H0.out.below
 clear H0
 go_wp2_with fail
 go_loopw [1,6,7] (fun t o i wr=>∃ (k:Nat) (b:ByteArray),k≤4∧i= .int .i64 k∧o= .string b∧t= .int .i64 a∧b.size=k*128∧Below W0.heap.size W0 wr) (fun _ _ i _=>4-(intOf i).toNat)
 case atStart=>exact⟨0,⟨#[]⟩,Nat.zero_le _,rfl,rfl,rfl,rfl,Below.refl _ _⟩
 case round=>
  obtain⟨k,b,hk,rfl,rfl,rfl,hbs,hbw⟩:=hrel
  have HB:=Hq (HB0.out.trans (hbw.mono HB0.out.size))
  have HGR:=Hq (blkOld HG.out hbw)
  have hk0:(0:Int)≤(k:Int):=by omega
  by_cases hlt:k<4
  ·have hki:(k:Int)<4:=by omega
   have hwk:IntKind.i64.wrap ((k:Int)+1)=(k:Int)+1:=IntWalk.i64_in _ (by omega)
   have hwa:IntKind.i64.wrap (a+(k:Int))=a+(k:Int):=IntWalk.i64_in _ (by omega)
   have hgt:¬ (1099511627776:Int)<a:=by omega
   have HRK:=Hq (HRD.out (a+(k:Int)))
   have HSK:=Hq (HSZ.out (a+(k:Int)))
   generalize Lg.readD d (a+(k:Int))=y at HRK HSK
   obtain⟨z,x⟩:=y
   simp only at HSK
   by_cases hx:x=0
   ·subst hx
    have hzs:=HSK.out rfl
    have hadd:∀ W:World,(Op.stringOp .add b z).run Tryz.prog W= .ok (.string (b++z)) W:=fun W=>run_string_add_sum W _ _ (by omega)
    go_wp2_with (first|(with_reducible refine lL HGR.out Tryz.underlying29 ?_)|(go_at_call 39;(with_reducible refine(HRK.out _ HB.out).mono ?_);rintro e w2 ⟨rfl,hb2⟩))
    go_roundw
    case rel=>exact⟨k+1,b++z,by omega,by go_num,rfl,rfl,by rw[ByteArray.size_append];omega,hbw.trans (hb2.mono hbw.size)⟩
    case measure=>simp[intOf];omega
   ·have hxb:(x != 0)=true:=bne_iff_ne.2 hx
    go_wp2_with (first|(with_reducible refine lL HGR.out Tryz.underlying29 ?_)|(go_at_call 39;(with_reducible refine(HRK.out _ HB.out).mono ?_);rintro e w2 ⟨rfl,hb2⟩))
    go_ret2
    exact⟨⟨#[]⟩,x,rfl,by decide,fun h=>absurd h hx,joinB HB.out hb2⟩
  ·obtain rfl:k=4:=by omega
   go_wp2_with fail
   go_ret2
   exact⟨b,0,rfl,by omega,fun _=>by omega,HB.out⟩
structure Lw (a:Int) (d d':Lg.Dk):Prop where
 len:d'.sectors.length=d.sectors.length
 wr:∀ Q:Lg.Dk→Prop,(∀ d i b,a≤i→Q d→Q (Lg.writeD d i b).1)→Q d→Q d'
theorem Lw.refl (a:Int)(d:Lg.Dk):Lw a d d:=⟨rfl,fun _ _ h=>h⟩
theorem Lw.trans {a i:Int}{d d' d2:Lg.Dk}(h:Lw a d d')(hi:a≤i)(h2:Lw i d' d2):Lw a d d2:=⟨h2.len.trans h.len,fun Q hQ hd=>h2.wr Q (fun _ j _ hj hq=>hQ _ j _ (Int.le_trans hi hj) hq) (h.wr Q hQ hd)⟩
def DkOut (a:Int)(d:Lg.Dk)(w:World)(e:Ending)(w':World):Prop:=∃ (d':Lg.Dk) (x:Int) (A':Option Addr) (c':Nat),e= .returned (.tuple #[diskV d' A' c',x])∧DiskR w' d' A' c'∧NewT 0 w' 9 A'∧DkI d'∧Lw a d d'∧Below w.heap.size w w'
theorem rwrite_step (d:Lg.Dk)(hd:DkI d)(A:Option Addr)(c:Nat)(a:Int)(b:ByteArray)(w:World)(h:DiskR w d A c)(hT:NewT 0 w 9 A):
 Calls Tryz.prog 72 #[diskV d A c,a,b] w (DkOut a d w):=
 (rwrite_any d hd.lb A c a b w h).mono fun e w' hx=>by
   obtain⟨A',c',rfl,hr,ht,hb⟩:=hx
   obtain⟨h1,h2⟩:=hd.write a b
   exact⟨_,_,A',c',rfl,hr,ht.elim (fun e=>by rw[e];exact hT.below hb) (fun e=>e.mono (Nat.zero_le _)),h1,⟨h2,fun _ hQ hq=>hQ _ _ _ (Int.le_refl _) hq⟩,hb⟩
theorem rwritepage_any (d:Lg.Dk)(hd:DkI d)(A:Option Addr)(c:Nat)(a:Int)(ha:0≤a∧a≤1000)(b:ByteArray)(w:World)(h:DiskR w d A c)(hT:NewT 0 w 9 A):
 Calls Tryz.prog 106 #[diskV d A c,a,b] w (DkOut a d w):=by
 have HIS:=Hq (fun W=>ris_any d A c a W)
 have HD:=Hq hd
 have HR:=Hq h
 have HT:=Hq hT
 have hsm:=h.small
 clear h hd hT
 go_enter Tryz.func106,Tryz.ntmps106
 go_upto_region 1 with fail
 have H0:=nW2 w #[.slice A d.sectors.length c,d.left,d.down] 29 #["s",(),false] 29
 obtain⟨W0,hW0⟩:=exW H0
 rw[← hW0]at H0 ⊢
 clear hW0
 have hc:=show W0.cell? ⟨w.heap.size,2,none⟩=some (.bool d.down)from by rw[blkCell H0.out.get0];rfl
 have HRF:=Hq (fun W (hb:Below w.heap.size w W)=>show DiskR W d A c∧NewT 0 W 9 A from⟨HR.out.below hb,HT.out.below hb⟩)
 have HX:=Hq (fun W (hb:BxL w.heap.size w [(#[.slice A d.sectors.length c,d.left,d.down],29),(#["s",(),false],29)] W) (x:Int)=>show ∃ (d':Lg.Dk) (x':Int) (A':Option Addr) (c':Nat),Ending.returned (.tuple #[diskV d A c,x])= .returned (.tuple #[diskV d' A' c',x'])∧DiskR (W.setRow (w.heap.size+1) #[.slice A d.sectors.length c,d.left,d.down]) d' A' c'∧NewT 0 (W.setRow (w.heap.size+1) #[.slice A d.sectors.length c,d.left,d.down]) 9 A'∧DkI d'∧Lw a d d'∧Below w.heap.size w (W.setRow (w.heap.size+1) #[.slice A d.sectors.length c,d.left,d.down])from⟨d,x,A,c,rfl,(HRF.out _ (hb.row 1 #[.slice A d.sectors.length c,d.left,d.down] _ rfl).below).1,(HRF.out _ (hb.row 1 #[.slice A d.sectors.length c,d.left,d.down] _ rfl).below).2,HD.out,Lw.refl a d,(hb.row 1 #[.slice A d.sectors.length c,d.left,d.down] _ rfl).below⟩)
 cases hdn:d.down with
 |true=>
  rw[hdn]at hc
  clear hdn
  go_wp2_with (first|(with_reducible refine lL H0.out.get0 Tryz.underlying29 ?_)|(with_reducible refine lS #[.slice A d.sectors.length c,d.left,d.down] H0.out.get1 ?_))
  refine bodyPost_ret (v:=.tuple #[.agg #[.slice A d.sectors.length c,d.left,d.down],.int .i64 20]) (results_cell2 rfl _ _ rfl (load_whole (setRow_heap _ _ _ _ _ _ H0.out.get1) Tryz.underlying29 Kr Kr) rfl) rfl ?_
  exact HX.out W0 H0.out 20
 |false=>
  rw[hdn]at hc
  clear hdn
  have hc0:=show W0.cell? ⟨w.heap.size,0,none⟩=some (.slice A d.sectors.length c)from by rw[blkCell H0.out.get0];rfl
  go_upto_region 3 with fail
  go_cut [30] (fun v wc=>∃ t:Bool,v= .bool t∧(t=false→b.size=512∧a+4≤(d.sectors.length:Int))∧Below W0.heap.size W0 wc)
  case first=>
   by_cases h1:b.size=512
   ·have h1i:((b.size:Int) != 512)=false:=by rw[h1];rfl
    have h1j:(b.size:Int)=512:=by omega
    by_cases h2:Lg.hasD d a
    ·have h2d:decide (Lg.hasD d a)=true:=decide_eq_true h2
     have hws:IntKind.i64.wrap ((d.sectors.length:Int)-a)=(d.sectors.length:Int)-a:=IntWalk.i64_in _ (by omega)
     have HI:=Hq (fun W=>HIS.out W)
     rw[h2d]at HI
     by_cases h3:(d.sectors.length:Int)-a<4
     ·go_wp2_with (first|(with_reducible refine lL H0.out.get0 Tryz.underlying29 ?_)|(go_at_call 78;(with_reducible refine(HI.out _).mono ?_);rintro e w2 ⟨rfl,hb2⟩;have hc2:=show w2.cell? ⟨w.heap.size,0,none⟩=some (.slice A d.sectors.length c)from by rw[hb2.cell (p:=⟨w.heap.size,0,none⟩) (H0.out.lt (i:=0) (by simp))];exact hc0))
      go_meet
      case rel=>exact⟨true,by simp,(fun h=>by cases h),hb2⟩
     ·go_wp2_with (first|(with_reducible refine lL H0.out.get0 Tryz.underlying29 ?_)|(go_at_call 78;(with_reducible refine(HI.out _).mono ?_);rintro e w2 ⟨rfl,hb2⟩;have hc2:=show w2.cell? ⟨w.heap.size,0,none⟩=some (.slice A d.sectors.length c)from by rw[hb2.cell (p:=⟨w.heap.size,0,none⟩) (H0.out.lt (i:=0) (by simp))];exact hc0))
      go_meet
      case rel=>exact⟨false,by simp;omega,fun _=>⟨h1,by omega⟩,hb2⟩
    ·have h2d:decide (Lg.hasD d a)=false:=decide_eq_false h2
     have HI:=Hq (fun W=>HIS.out W)
     rw[h2d]at HI
     go_wp2_with (first|(with_reducible refine lL H0.out.get0 Tryz.underlying29 ?_)|(go_at_call 78;(with_reducible refine(HI.out _).mono ?_);rintro e w2 ⟨rfl,hb2⟩))
     go_meet
     case rel=>exact⟨true,by simp,(fun h=>by cases h),hb2⟩
   ·have h1i:((b.size:Int) != 512)=true:=bne_iff_ne.2 (by omega)
    go_wp2_with fail
    go_meet
    case rel=>exact⟨true,by simp,(fun h=>by cases h),Below.refl _ _⟩
  case rest=>
   obtain⟨t,rfl,ht,hbc⟩:=hcut
   obtain⟨w1,rfl⟩:=ex wc
   have H1:=Hq (H0.out.step hbc)
   clear hbc hc hc0 HIS H0
   cases t with
   |true=>
    go_wp2_with (first|(with_reducible refine lL H1.out.get0 Tryz.underlying29 ?_)|(with_reducible refine lS #[.slice A d.sectors.length c,d.left,d.down] H1.out.get1 ?_))
    refine bodyPost_ret (v:=.tuple #[.agg #[.slice A d.sectors.length c,d.left,d.down],.int .i64 1]) (results_cell2 rfl _ _ rfl (load_whole (setRow_heap _ _ _ _ _ _ H1.out.get1) Tryz.underlying29 Kr Kr) rfl) rfl ?_
    exact HX.out w1 H1.out 1
   |false=>
    obtain⟨hb5,hfit⟩:=ht rfl
    clear ht HX
    obtain⟨hr1,ht1⟩:=HRF.out w1 H1.out.below
    have HLN:=Hq (Eq.refl d.sectors.length)
    have HR1:=Hq hr1
    have HT1:=Hq ht1
    go_wp2_with fail
    go_loopw [8] (fun i wr=>∃ (k:Nat) (d2:Lg.Dk) (A2:Option Addr) (c2:Nat),k≤4∧i= .int .i64 k∧BxL w.heap.size w [(#[.slice A2 d2.sectors.length c2,d2.left,d2.down],29),(#["s",(),false],29)] wr∧DiskR wr d2 A2 c2∧NewT 0 wr 9 A2∧DkI d2∧Lw a d d2) (fun i _=>4-(intOf i).toNat)
    case atStart=>exact⟨0,d,A,c,Nat.zero_le _,rfl,H1.out,HR1.out,HT1.out,HD.out,Lw.refl a d⟩
    case round=>
     clear HR1 HT1 hr1 ht1 H1 HR HT HD HRF HLN
     obtain⟨k,d2,A2,c2,hk,rfl,hbx,hdr,hdt,hdi,hdl⟩:=hrel
     have HBX:=Hq hbx
     have HDR:=Hq hdr
     have HDT:=Hq hdt
     have HDI:=Hq hdi
     have HDL:=Hq hdl
     clear hbx hdr hdt hdi hdl
     have hk0:(0:Int)≤(k:Int):=by omega
     by_cases hlt:k<4
     ·have hki:(k:Int)<4:=by omega
      have hwk:IntKind.i64.wrap ((k:Int)+1)=(k:Int)+1:=IntWalk.i64_in _ (by omega)
      have hwa:IntKind.i64.wrap (a+(k:Int))=a+(k:Int):=IntWalk.i64_in _ (by omega)
      have hw1:IntKind.i64.wrap ((k:Int)*128)=(k:Int)*128:=IntWalk.i64_in _ (by omega)
      have hw2:IntKind.i64.wrap (((k:Int)+1)*128)=((k:Int)+1)*128:=IntWalk.i64_in _ (by omega)
      have hs0:(0:Int)≤(k:Int)*128:=by omega
      have hs1:(k:Int)*128≤((k:Int)+1)*128:=by omega
      have hs2:((k:Int)+1)*128≤(b.size:Int):=by omega
      have HWR:=Hq (fun bb W (hb:Below wr.heap.size wr W)=>rwrite_step d2 HDI.out A2 c2 (a+(k:Int)) bb W (HDR.out.below hb) (HDT.out.below hb))
      have hs3:(0:Int)≤((k:Int)+1)*128:=by omega
      have hs4:((k:Int)+1)*128≤512:=by omega
      have hs5:(k:Int)≤(k:Int)+1:=by omega
      clear hlt
      go_upto_region 8 with fail
      go_cut [9,10] (fun x y wc=>∃ (gt:Nat) (d3:Lg.Dk) (A3:Option Addr) (c3:Nat) (e3:Int),x= .pointer (some ⟨gt,0,none⟩)∧y= .int .i64 e3∧wc.heap[gt]? =some (.cells #[.slice A3 d3.sectors.length c3,d3.left,d3.down] 29 (0,0))∧DiskR wc d3 A3 c3∧NewT 0 wc 9 A3∧DkI d3∧Lw a d d3∧Below wr.heap.size wr wc)
      case first=>
       have Z0:Below wr.heap.size wr wr.drew:=(Below.refl _ wr).drew
       refine rgH (S:=(fun u=>Below wr.heap.size wr u)) (fun hHeld=>?_)
       refine tkV 0 (some 37) (v:=.agg #[.slice A2 d2.sectors.length c2,d2.left,d2.down]) rfl (yieldsIf_load_mid (by rfl) 29 (.tmp 3) rfl w.heap.size 0 (by rfl) #[.slice A2 d2.sectors.length c2,.int .i64 d2.left,.bool d2.down].toList _ (fun u hu=>(by intro j v hj;rw[Nat.zero_add,blkCell (blkOld HBX.out.get0 hu)];simpa using hj)) Tryz.underlying29 Kr Kr) ?_
       try simp only[Act.put,pS]
       refine tkP 1 ?_;refine tkP 2 ?_;refine tkP 3 ?_;refine tkP 4 ?_;refine tkP 5 ?_;refine tkP 6 ?_;refine tkP 7 ?_;refine tkP 8 ?_;refine tkP 9 ?_;refine tkP 10 ?_
       refine wpAnyH_ready (rs:=[11,15]) Kr (by simp) ?_
       refine(AllReadyH.cons (o:={dst:=some 48,op:=_,type:=_,pos:=_,after:=_,guard:=_}) rfl (fun K hK=>?_) (AllReadyH.cons (o:={dst:=some 9,op:=_,type:=_,pos:=_,after:=_,guard:=_}) rfl (fun K hK=>?_) AllReadyH.nil))
       ·
        go_simp
        refine(HWR.out _ _ Z0).mono ?_;rintro e w5 ⟨d3,e3,A3,c3,rfl,hr5,hn5,hi5,hl5,hb5⟩;have Z2:=joinB Z0 hb5;try clear hSn
        have hSn:=Z2
        refine hKo hK (fun hHeld=>?_)
        clear hK K
        refine tkP 12 ?_;refine tkP 13 ?_;refine tkP 14 ?_
        refine rdP 15 fun K hK=>?_
        go_simp
        have HG:=heap_alloc_new w5 (.cells #["s",(),false] 29);have Z3:=joinB Z2 (allocB w5 (.cells #["s",(),false] 29));have hr6:=hr5.below (allocB w5 (.cells #["s",(),false] 29));have hn6:=hn5.below (allocB w5 (.cells #["s",(),false] 29));clear hSn;have hSn:=Z3
        refine hKo hK (fun hHeld=>?_)
        clear hK K
        refine rdP 16 fun K hK=>?_
        refine wantedIf (by rfl) ?_
        refine sW #[.slice A3 d3.sectors.length c3,d3.left,d3.down] HG ?_
        have Z4:=rowB (g:=w5.heap.size) (by have:=Z2.size;omega) Z3 #[.slice A3 d3.sectors.length c3,d3.left,d3.down]
        have HG4:=setRow_heap _ _ _ #[.slice A3 d3.sectors.length c3,d3.left,d3.down] _ _ HG
        have hr7:DiskR _ d3 A3 c3:=⟨hn6.readsRow hr6.secs HG (by decide) #[.slice A3 d3.sectors.length c3,d3.left,d3.down],hr6.small⟩
        have hn7:=hn6.row w5.heap.size #[.slice A3 d3.sectors.length c3,d3.left,d3.down]
        clear hSn
        have hSn:=Z4
        refine hKo hK (fun hHeld=>?_)
        clear hK K
        refine tkP 17 ?_
        refine wpAnyH_done Kr ?_ _
        clear hHeld hSn
        go_wp2_with fail
        go_meet
        case rel=>exact⟨_,d3,A3,c3,e3,rfl,rfl,HG4,hr7,hn7,hi5,HDL.out.trans (by omega) hl5,Z4⟩
       ·
        go_simp
        have Z1:=joinB Z0 (allocB wr.drew (.cells #["s",(),false] 29));have hSn:=Z1
        refine hKo hK (fun hHeld=>?_)
        clear hK K
        refine rdP 11 fun K hK=>?_
        go_simp
        refine(HWR.out _ _ Z1).mono ?_;rintro e w5 ⟨d3,e3,A3,c3,rfl,hr5,hn5,hi5,hl5,hb5⟩;have Z2:=joinB Z1 hb5;try clear hSn
        have hSn:=Z2
        have HG:=blkNew hb5
        refine hKo hK (fun hHeld=>?_)
        clear hK K
        refine tkP 12 ?_;refine tkP 13 ?_;refine tkP 14 ?_
        refine rdP 16 fun K hK=>?_
        refine wantedIf (by rfl) ?_
        refine sW #[.slice A3 d3.sectors.length c3,d3.left,d3.down] HG ?_
        have Z4:=rowB (g:=wr.drew.heap.size) (by show wr.heap.size≤wr.heap.size;omega) Z2 #[.slice A3 d3.sectors.length c3,d3.left,d3.down]
        have HG4:=setRow_heap _ _ _ #[.slice A3 d3.sectors.length c3,d3.left,d3.down] _ _ HG
        have hr7:DiskR _ d3 A3 c3:=⟨hn5.readsRow hr5.secs HG (by decide) #[.slice A3 d3.sectors.length c3,d3.left,d3.down],hr5.small⟩
        have hn7:=hn5.row wr.drew.heap.size #[.slice A3 d3.sectors.length c3,d3.left,d3.down]
        clear hSn
        have hSn:=Z4
        refine hKo hK (fun hHeld=>?_)
        clear hK K
        refine tkP 17 ?_
        refine wpAnyH_done Kr ?_ _
        clear hHeld hSn
        go_wp2_with fail
        go_meet
        case rel=>exact⟨_,d3,A3,c3,e3,rfl,rfl,HG4,hr7,hn7,hi5,HDL.out.trans (by omega) hl5,Z4⟩
      case rest=>
       obtain⟨gt,d3,A3,c3,e3,rfl,rfl,hg3,hr3,hn3,hi3,hl3,hb3⟩:=hcut
       obtain⟨w3,rfl⟩:=ex wc
       have HG3:=Hq hg3
       have HR3:=Hq hr3
       have HN3:=Hq hn3
       have HI3:=Hq hi3
       have HL3:=Hq hl3
       have HB3:=Hq (HBX.out.step hb3)
       clear hg3 hr3 hn3 hi3 hl3 hb3 HWR
       by_cases he:e3=0
       ·have heb:(e3 != 0)=false:=by rw[he];rfl
        go_wp2_with (first|(with_reducible refine lL HG3.out Tryz.underlying29 ?_)|(with_reducible refine lS #[.slice A3 d3.sectors.length c3,d3.left,d3.down] HB3.out.get0 ?_))
        go_roundw
        case rel=>exact⟨k+1,d3,A3,c3,by omega,by go_num,HB3.out.row 0 #[.slice A3 d3.sectors.length c3,d3.left,d3.down] _ rfl,⟨HN3.out.readsRow HR3.out.secs HB3.out.get0 (by decide) _,HR3.out.small⟩,HN3.out.row _ _,HI3.out,HL3.out⟩
        case measure=>simp[intOf];omega
       ·have heb:(e3 != 0)=true:=bne_iff_ne.2 he
        go_wp2_with (first|(with_reducible refine lL HG3.out Tryz.underlying29 ?_)|(with_reducible refine lS #[.slice A3 d3.sectors.length c3,d3.left,d3.down] HB3.out.get1 ?_))
        refine bodyPost_ret (v:=.tuple #[.agg #[.slice A3 d3.sectors.length c3,d3.left,d3.down],e3]) (results_cell2 rfl _ _ rfl (load_whole (setRow_heap _ _ _ _ _ _ HB3.out.get1) Tryz.underlying29 Kr Kr) rfl) rfl ?_
        exact⟨d3,e3,A3,c3,rfl,⟨HN3.out.readsRow HR3.out.secs HB3.out.get1 (by decide) _,HR3.out.small⟩,HN3.out.row _ _,HI3.out,HL3.out,(HB3.out.row 1 #[.slice A3 d3.sectors.length c3,d3.left,d3.down] _ rfl).below⟩
     ·obtain rfl:k=4:=by omega
      go_wp2_with (first|(with_reducible refine lL HBX.out.get0 Tryz.underlying29 ?_)|(with_reducible refine lS #[.slice A2 d2.sectors.length c2,d2.left,d2.down] HBX.out.get1 ?_))
      refine bodyPost_ret (v:=.tuple #[.agg #[.slice A2 d2.sectors.length c2,d2.left,d2.down],()]) (results_cell2 rfl _ _ rfl (load_whole (setRow_heap _ _ _ _ _ _ HBX.out.get1) Tryz.underlying29 Kr Kr) rfl) rfl ?_
      exact⟨d2,0,A2,c2,rfl,⟨HDT.out.readsRow HDR.out.secs HBX.out.get1 (by decide) _,HDR.out.small⟩,HDT.out.row _ _,HDI.out,HDL.out,(HBX.out.row 1 #[.slice A2 d2.sectors.length c2,d2.left,d2.down] _ rfl).below⟩
end Go.Proofs.YtilakddepaplhaaGreat
