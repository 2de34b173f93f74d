import Derived.Test.YtilakddepaplhaaGreatHm00
import Derived.Test.YtilakddepaplhaaGreatHm03
import Derived.Test.YtilakddepaplhaaGreatHm01
import Derived.BigRegion
import Derived.Test.YtilakddepaplhaaGreatHm04
import Derived.Test.YtilakddepaplhaaGreatHm05
set_option maxRecDepth 100000
set_option maxHeartbeats 16000000
namespace Rc
theorem t_len (s:ByteArray):(t s).length=2+s.size:=by
 unfold t;rw[List.length_append,p_length];simp
theorem opB_len {o:Op}(h:opR o):(opB o).length≤1031:=by
 obtain⟨_,_,_,h4,h5⟩:=h
 unfold opB
 simp only[List.length_append,p_length,t_len]
 omega
theorem flat_len {α:Type}(f:α→List UInt8)(k:Nat)(hf:∀ x,(f x).length=k):∀ l:List α,(l.flatMap f).length=l.length*k:=by
 intro l
 induction l with
 |nil=>simp
 |cons x l ih=>rw[List.flatMap_cons,List.length_append,hf,ih,List.length_cons,Nat.add_mul];omega
theorem txnB_len (x:TxnAt):(txnB x).length=19:=by
 unfold txnB;simp only[List.length_append,p_length]
theorem dirtyB_len (x:DirtyAt):(dirtyB x).length=9:=by
 unfold dirtyB;simp only[List.length_append,p_length]
theorem headB_len (r:Rec):(headB r).length=19:=by
 unfold headB;simp only[List.length_append,p_length]
theorem listsB_len {r:Rec}(h:listsR r):(listsB r).length≤37010:=by
 obtain⟨h1,h2,_⟩:=h
 unfold listsB
 simp only[List.length_append,p_length,flat_len txnB 19 txnB_len,flat_len dirtyB 9 dirtyB_len]
 omega
theorem bodyB_len {r:Rec}(h:Right r):19≤(bodyB r).length∧(bodyB r).length≤40000:=by
 unfold bodyB
 rw[List.length_append,headB_len]
 refine⟨by omega,?_⟩
 cases h with
 |small kind lsn prev txn hk h1 h2 h3=>
  have hk2:restB (bare kind lsn prev txn)=[]:=by
   unfold restB bare
   simp only
   rw[if_neg (by omega),if_neg (by omega),if_neg (by omega),if_neg (by omega),if_neg (by omega)]
  rw[hk2];simp
 |change lsn prev txn page op how root e h1 h2 h3 h4 h5 h6=>
  rw[restB_2 rfl]
  have ho:=opB_len h5
  have ht:(treeB ⟨lsn,prev,txn,2,page,0,0,op,how,root,e,[],[]⟩).length≤200:=by
   unfold treeB
   rcases h6 with⟨h7,_⟩|⟨h7,h8,h9,h10,h11⟩
   ·simp only at h7;subst h7;simp
   ·simp only at h7 h11
    rw[if_neg (show ¬ how=1 by omega)]
    simp only[List.length_append,p_length,t_len]
    omega
  simp only[List.length_append,p_length]
  omega
 |clr lsn prev txn page op next h1 h2 h3 h4 h5 h6=>
  rw[restB_3 rfl]
  have ho:=opB_len h5
  simp only[List.length_append,p_length]
  omega
 |nest lsn prev txn next h1 h2 h3 h6=>
  rw[restB_4 rfl]
  simp only[p_length]
  omega
 |image lsn prev txn page op h1 h2 h3 h4 h5=>
  rw[restB_8 rfl]
  have ho:=opB_len h5
  simp only[List.length_append,p_length]
  omega
 |check lsn prev txn n ts ds h1 h2 h3 h4 h5=>
  rw[restB_9 rfl]
  have:=listsB_len h5
  omega
theorem not_right_zero {r:Rec}(h:r.kind=0):¬ Right r:=by
 intro hr
 cases hr with
 |small kind lsn prev txn hk h1 h2 h3=>have:kind=0:=h;omega
 |change lsn prev txn page op how root e h1 h2 h3 h4 h5 h6=>exact absurd (show(2:Int)=0 from h) (by omega)
 |clr lsn prev txn page op next h1 h2 h3 h4 h5 h6=>exact absurd (show(3:Int)=0 from h) (by omega)
 |nest lsn prev txn next h1 h2 h3 h6=>exact absurd (show(4:Int)=0 from h) (by omega)
 |image lsn prev txn page op h1 h2 h3 h4 h5=>exact absurd (show(8:Int)=0 from h) (by omega)
 |check lsn prev txn n ts ds h1 h2 h3 h4 h5=>exact absurd (show(9:Int)=0 from h) (by omega)
end Rc
namespace Lg
open Rc
def putR (r:Rec):List UInt8:=Oct.putL (bodyB r).length 4++(Oct.putL (Oct.sumN (bodyB r)) 4++bodyB r)
theorem putR_len (r:Rec):(putR r).length=8+(bodyB r).length:=by
 unfold putR;simp only[List.length_append,Oct.putL_length];omega
def bodyAt (s:List UInt8)(a:Nat):List UInt8:=(s.drop (a+8)).take (Oct.getN s a 4)
def Is (s:List UInt8)(a:Nat):Prop:=
 a+8+Oct.getN s a 4≤s.length∧Oct.getN s (a+4) 4=Oct.sumN (bodyAt s a)∧Right (readM true (bodyAt s a))∧bodyB (readM true (bodyAt s a))=bodyAt s a
open Classical in
noncomputable def getO (s:List UInt8) (a:Nat):Option (Rec×Nat):=if Is s a then some (readM true (bodyAt s a),a+8+Oct.getN s a 4)else none
theorem getO_yes {s:List UInt8}{a:Nat}(h:Is s a):getO s a=some (readM true (bodyAt s a),a+8+Oct.getN s a 4):=if_pos h
theorem getO_no {s:List UInt8}{a:Nat}(h:¬ Is s a):getO s a=none:=if_neg h
theorem drop_app (x y:List UInt8)(k:Nat):(x++y).drop (x.length+k)=y.drop k:=by
 rw[← List.drop_drop,List.drop_left]
theorem getN_app2 (x y:List UInt8)(k n:Nat):Oct.getN (x++y) (x.length+k) n=Oct.getN y k n:=by
 unfold Oct.getN;rw[drop_app]
theorem getN_put (u k:Nat)(y:List UInt8)(h:u<256^k):Oct.getN (Oct.putL u k++y) 0 k=u:=by
 unfold Oct.getN
 rw[List.drop_zero,List.take_left' (Oct.putL_length u k),Oct.getL_putL,Nat.mod_eq_of_lt h]
theorem is_put (x y:List UInt8){r:Rec}(h:Right r):Is (x++(putR r++y)) x.length∧bodyAt (x++(putR r++y)) x.length=bodyB r∧Oct.getN (x++(putR r++y)) x.length 4=(bodyB r).length:=by
 have hlen:=bodyB_len h
 have hg:Oct.getN (x++(putR r++y)) x.length 4=(bodyB r).length:=by
  have h1:=getN_app2 x (putR r++y) 0 4
  rw[Nat.add_zero]at h1
  rw[h1]
  unfold putR
  rw[List.append_assoc]
  exact getN_put _ _ _ (by show _<4294967296;omega)
 have hs:Oct.getN (x++(putR r++y)) (x.length+4) 4=Oct.sumN (bodyB r):=by
  rw[getN_app2]
  unfold putR
  have h2:=getN_app2 (Oct.putL (bodyB r).length 4) (Oct.putL (Oct.sumN (bodyB r)) 4++(bodyB r++y)) 0 4
  rw[Oct.putL_length]at h2
  simp only[List.append_assoc]
  rw[h2]
  exact getN_put _ _ _ (Oct.sumN_lt _)
 have hb:bodyAt (x++(putR r++y)) x.length=bodyB r:=by
  unfold bodyAt
  rw[hg,drop_app]
  unfold putR
  have e:(Oct.putL (bodyB r).length 4++(Oct.putL (Oct.sumN (bodyB r)) 4++bodyB r)++y)=(Oct.putL (bodyB r).length 4++Oct.putL (Oct.sumN (bodyB r)) 4)++(bodyB r++y):=by simp[List.append_assoc]
  rw[e,List.drop_left' (by rw[List.length_append,Oct.putL_length,Oct.putL_length]),List.take_left]
 refine⟨⟨?_,?_,?_,?_⟩,hb,hg⟩
 ·rw[hg];simp only[List.length_append,putR_len];omega
 ·rw[hs,hb]
 ·rw[hb,read_body true h];exact h
 ·rw[hb,read_body true h]
theorem getO_put (x y:List UInt8){r:Rec}(h:Right r):getO (x++(putR r++y)) x.length=some (r,x.length+(putR r).length):=by
 obtain⟨h1,h2,h3⟩:=is_put x y h
 rw[getO_yes h1,h2,h3,read_body true h,putR_len,Nat.add_assoc]
theorem take_join (s:List UInt8)(a n:Nat):(s.drop a).take n++s.drop (a+n)=s.drop a:=by
 rw[← List.drop_drop,List.take_append_drop]
theorem is_bytes {s:List UInt8}{a:Nat}(h:Is s a):s=s.take a++(putR (readM true (bodyAt s a))++s.drop (a+8+Oct.getN s a 4)):=by
 obtain⟨h1,h2,h3,h4⟩:=h
 have hbl:(bodyAt s a).length=Oct.getN s a 4:=by unfold bodyAt;rw[List.length_take,List.length_drop];omega
 have e1:Oct.putL (bodyAt s a).length 4=(s.drop a).take 4:=by
  rw[hbl];unfold Oct.getN
  exact Oct.putL_getL 4 _ (by rw[List.length_take,List.length_drop];omega)
 have e2:Oct.putL (Oct.sumN (bodyAt s a)) 4=(s.drop (a+4)).take 4:=by
  rw[← h2];unfold Oct.getN
  exact Oct.putL_getL 4 _ (by rw[List.length_take,List.length_drop];omega)
 unfold putR
 rw[h4,e1,e2]
 have e3:bodyAt s a++s.drop (a+8+Oct.getN s a 4)=s.drop (a+8):=take_join s (a+8) _
 have e4:(s.drop (a+4)).take 4++s.drop (a+8)=s.drop (a+4):=take_join s (a+4) 4
 have e5:(s.drop a).take 4++s.drop (a+4)=s.drop a:=take_join s a 4
 rw[List.append_assoc,List.append_assoc,e3,e4,e5,List.take_append_drop]
theorem is_zero {s:List UInt8}{a:Nat}(h:Oct.getN s a 4=0):¬ Is s a:=by
 rintro⟨_,_,h3,_⟩
 have hb:bodyAt s a=[]:=by unfold bodyAt;rw[h,List.take_zero]
 rw[hb]at h3
 exact not_right_zero (by rfl) h3
noncomputable def openL (s:List UInt8):Nat→Nat→List Rec×Nat
 |0,a=>([],a)
 |f+1,a=>match getO s a with
  |none=>([],a)
  |some (r,b)=>if r.lsn=(a:Int)+1 then(r::(openL s f b).1,(openL s f b).2)else([],a)
def Row (a:Nat):List Rec→Prop
 |[]=>True
 |r::l=>Right r∧r.lsn=(a:Int)+1∧Row (a+(putR r).length) l
def bytes (l:List Rec):List UInt8:=l.flatMap putR
theorem bytes_cons (r:Rec)(l:List Rec):bytes (r::l)=putR r++bytes l:=rfl
theorem bytes_append (l m:List Rec):bytes (l++m)=bytes l++bytes m:=List.flatMap_append
theorem row_append {a:Nat}{l m:List Rec}:Row a (l++m)↔Row a l∧Row (a+(bytes l).length) m:=by
 induction l generalizing a with
 |nil=>simp[Row,bytes]
 |cons r l ih=>
  show(Right r∧r.lsn=(a:Int)+1∧Row (a+(putR r).length) (l++m))↔(Right r∧r.lsn=(a:Int)+1∧Row (a+(putR r).length) l)∧_
  rw[ih,bytes_cons,List.length_append,Nat.add_assoc]
  constructor
  ·rintro⟨h1,h2,h3,h4⟩;exact⟨⟨h1,h2,h3⟩,h4⟩
  ·rintro⟨⟨h1,h2,h3⟩,h4⟩;exact⟨h1,h2,h3,h4⟩
theorem openL_row (l:List Rec):∀ (x y:List UInt8) (f:Nat),Row x.length l→l.length<f→(∀ r b,getO (x++(bytes l++y)) (x.length+(bytes l).length)=some (r,b)→r.lsn≠((x.length+(bytes l).length:Nat):Int)+1)→
 openL (x++(bytes l++y)) f x.length=(l,x.length+(bytes l).length):=by
 induction l with
 |nil=>
  intro x y f hrow hf hend
  obtain⟨f,rfl⟩:∃ g,f=g+1:=⟨f-1,by simp at hf;omega⟩
  have hb0:(bytes []).length=0:=rfl
  rw[hb0,Nat.add_zero]at hend ⊢
  unfold openL
  cases hg:getO (x++(bytes []++y)) x.length with
  |none=>rfl
  |some v=>
   obtain⟨r,b⟩:=v
   simp only
   rw[if_neg (hend r b hg)]
   rfl
 |cons r l ih=>
  intro x y f hrow hf hend
  obtain⟨h1,h2,h3⟩:=hrow
  obtain⟨f,rfl⟩:∃ g,f=g+1:=⟨f-1,by simp at hf;omega⟩
  have e:x++(bytes (r::l)++y)=(x++putR r)++(bytes l++y):=by rw[bytes_cons];simp[List.append_assoc]
  have el:x.length+(bytes (r::l)).length=(x++putR r).length+(bytes l).length:=by rw[bytes_cons,List.length_append,List.length_append];omega
  have hg:=getO_put x (bytes l++y) h1
  rw[e,el]at hend
  have:=ih (x++putR r) y f (by rw[List.length_append];exact h3) (by simp at hf;omega) hend
  rw[e,el]
  unfold openL
  rw[← List.append_assoc]at hg
  rw[hg]
  simp only
  rw[if_pos h2,← List.length_append,this]
def Zeros (s:List UInt8)(a k:Nat):Prop:=∀ i,a≤i→i<a+k→i<s.length→s[i]? =some 0
theorem getL_zero:∀ l:List UInt8,(∀ i,i<l.length→l[i]? =some 0)→Oct.getL l=0:=by
 intro l
 induction l with
 |nil=>intro _;rfl
 |cons c l ih=>
  intro h
  have h0:=h 0 (by simp)
  simp only[List.getElem?_cons_zero,Option.some.injEq]at h0
  have h1:=ih (fun i hi=>by have:=h (i+1) (by simpa using hi);simpa using this)
  subst h0
  unfold Oct.getL at h1 ⊢
  simpa using h1
theorem getN_zero {s:List UInt8}{a:Nat}(h:Zeros s a 4):Oct.getN s a 4=0:=by
 unfold Oct.getN
 refine getL_zero _ (fun i hi=>?_)
 rw[List.length_take,List.length_drop]at hi
 rw[List.getElem?_take,if_pos (by omega),List.getElem?_drop]
 exact h _ (by omega) (by omega) (by omega)
structure Lies (s:List UInt8) (l:List Rec):Prop where
 row:Row 0 l
 pre:s.take (bytes l).length=bytes l
 room:(bytes l).length≤s.length
 zero:Zeros s (bytes l).length 128
theorem Lies.not {s:List UInt8}{l:List Rec}(h:Lies s l):¬ Is s (bytes l).length:=
 is_zero (getN_zero fun i h1 h2 h3=>h.zero i h1 (by omega) h3)
theorem Lies.split {s:List UInt8}{l:List Rec}(h:Lies s l):s=[]++(bytes l++s.drop (bytes l).length):=by
 rw[List.nil_append]
 conv=>lhs;rw[← List.take_append_drop (bytes l).length s,h.pre]
theorem open_row {s:List UInt8}{l:List Rec}(hrow:Row 0 l)(hpre:s.take (bytes l).length=bytes l)(hno:¬ Is s (bytes l).length){f:Nat}(hf:l.length<f):openL s f 0=(l,(bytes l).length):=by
 have hs:s=[]++(bytes l++s.drop (bytes l).length):=by
  rw[List.nil_append]
  conv=>lhs;rw[← List.take_append_drop (bytes l).length s,hpre]
 have:=openL_row l [] (s.drop (bytes l).length) f hrow hf (fun r b hg=>by
  rw[← hs]at hg
  simp only[List.length_nil,Nat.zero_add]at hg
  rw[getO_no hno]at hg
  cases hg)
 rw[← hs]at this
 simpa using this
theorem Lies.opens {s:List UInt8}{l:List Rec}(h:Lies s l){f:Nat}(hf:l.length<f):openL s f 0=(l,(bytes l).length):=open_row h.row h.pre h.not hf
def mix (s n:List UInt8)(q:Nat):List UInt8:=s.take q++n.drop q
theorem mix_get {s n:List UInt8}{q:Nat}(h:s.length=n.length)(i:Nat):(mix s n q)[i]? =if i<q then s[i]? else n[i]? :=by
 unfold mix
 by_cases hq:q≤s.length
 ·have hl:(s.take q).length=q:=by rw[List.length_take];omega
  by_cases hi:i<q
  ·rw[if_pos hi,List.getElem?_append_left (by omega),List.getElem?_take,if_pos hi]
  ·rw[if_neg hi,List.getElem?_append_right (by omega),hl,List.getElem?_drop]
   congr 1;omega
 ·rw[List.take_of_length_le (by omega),List.drop_of_length_le (by omega),List.append_nil]
  split
  ·rfl
  ·rw[List.getElem?_eq_none (by omega),List.getElem?_eq_none (by omega)]
theorem mix_eq {s n:List UInt8}{q:Nat}(h:s.length=n.length)(he:∀ i,i<q→s[i]? =n[i]?):mix s n q=n:=by
 refine List.ext_getElem? fun i=>?_
 rw[mix_get h]
 split
 ·rename_i hi;exact he i hi
 ·rfl
def flat (L:List ByteArray):List UInt8:=L.flatMap (·.data.toList)
def Whole (L:List ByteArray):Prop:=∀ b∈L,b.size=128
theorem flat_cons (b:ByteArray)(L:List ByteArray):flat (b::L)=b.data.toList++flat L:=rfl
theorem flat_append (L M:List ByteArray):flat (L++M)=flat L++flat M:=List.flatMap_append
theorem Whole.tail {b:ByteArray}{L:List ByteArray}(h:Whole (b::L)):b.data.toList.length=128∧Whole L:=
 ⟨by have:=h b (List.mem_cons_self ..);simpa using this,fun x hx=>h x (List.mem_cons_of_mem _ hx)⟩
theorem Whole.set {L:List ByteArray}(h:Whole L)(k:Nat){b:ByteArray}(hb:b.size=128):Whole (L.set k b):=fun x hx=>by
 rcases List.mem_or_eq_of_mem_set hx with h1|h1
 ·exact h x h1
 ·rw[h1];exact hb
theorem Whole.take {L:List ByteArray}(h:Whole L)(k:Nat):Whole (L.take k):=fun x hx=>h x (List.mem_of_mem_take hx)
theorem Whole.drop {L:List ByteArray}(h:Whole L)(k:Nat):Whole (L.drop k):=fun x hx=>h x (List.mem_of_mem_drop hx)
theorem flat_len {L:List ByteArray}(h:Whole L):(flat L).length=L.length*128:=by
 induction L with
 |nil=>rfl
 |cons b L ih=>
  obtain⟨h1,h2⟩:=h.tail
  rw[flat_cons,List.length_append,h1,ih h2,List.length_cons];omega
theorem flat_set {L:List ByteArray}(h:Whole L){b:ByteArray}(hb:b.size=128):∀ (k:Nat),k<L.length→∀ i,(flat (L.set k b))[i]? =if k*128≤i∧i<k*128+128 then b.data.toList[i-k*128]? else(flat L)[i]? :=by
 have hbl:b.data.toList.length=128:=by simpa using hb
 induction L with
 |nil=>intro k hk;simp at hk
 |cons c L ih=>
  obtain⟨h1,h2⟩:=h.tail
  intro k hk i
  cases k with
  |zero=>
   rw[List.set_cons_zero,flat_cons,flat_cons]
   by_cases hi:i<128
   ·rw[if_pos (by omega),List.getElem?_append_left (by omega),Nat.zero_mul,Nat.sub_zero]
   ·rw[if_neg (by omega),List.getElem?_append_right (by omega),List.getElem?_append_right (by omega),hbl,h1]
  |succ k=>
   rw[List.set_cons_succ,flat_cons,flat_cons]
   by_cases hi:i<128
   ·rw[if_neg (by omega),List.getElem?_append_left (by omega),List.getElem?_append_left (by omega)]
   ·rw[List.getElem?_append_right (by omega),h1,ih h2 k (by simpa using hk) (i-128)]
    by_cases hc:(k+1)*128≤i∧i<(k+1)*128+128
    ·rw[if_pos hc,if_pos (by omega),show i-128-k*128=i-(k+1)*128 by omega]
    ·rw[if_neg hc,if_neg (by omega),List.getElem?_append_right (by omega),h1]
theorem mix_step {L:List ByteArray}{s n:List UInt8}{k:Nat}{b:ByteArray}(hw:Whole L)(hb:b.size=128)(hk:k<L.length)(hlen:s.length=n.length)(h:flat L=mix s n ((k+1)*128))
 (hn:b.data.toList=(n.drop (k*128)).take 128):flat (L.set k b)=mix s n (k*128):=by
 refine List.ext_getElem? fun i=>?_
 rw[flat_set hw hb k hk,h,mix_get hlen,mix_get hlen]
 by_cases h1:i<k*128
 ·rw[if_neg (by omega),if_pos (by omega),if_pos h1]
 ·rw[if_neg h1]
  by_cases h2:i<k*128+128
  ·rw[if_pos (by omega),hn,List.getElem?_take,if_pos (by omega),List.getElem?_drop];congr 1;omega
  ·rw[if_neg (by omega),if_neg (by omega)]
theorem flat_drop {L:List ByteArray}(h:Whole L)(k:Nat):flat (L.drop k)=(flat L).drop (k*128):=by
 induction k generalizing L with
 |zero=>simp
 |succ k ih=>
  cases L with
  |nil=>simp[flat]
  |cons b L=>
   obtain⟨h1,h2⟩:=h.tail
   rw[List.drop_succ_cons,ih h2,flat_cons,show(k+1)*128=128+k*128 by omega,← List.drop_drop,List.drop_left' h1]
theorem flat_take {L:List ByteArray}(h:Whole L)(k:Nat):flat (L.take k)=(flat L).take (k*128):=by
 induction k generalizing L with
 |zero=>simp[flat]
 |succ k ih=>
  cases L with
  |nil=>simp[flat]
  |cons b L=>
   obtain⟨h1,h2⟩:=h.tail
   rw[List.take_succ_cons,flat_cons,ih h2,flat_cons,show(k+1)*128=128+k*128 by omega,List.take_append,h1,Nat.add_sub_cancel_left,List.take_of_length_le (l:=b.data.toList) (by omega)]
theorem getO_drop (s:List UInt8)(d a:Nat)(h:d≤s.length):getO (s.drop d) a=(getO s (d+a)).map fun x=>(x.1,x.2-d):=by
 have hg:∀ k m,Oct.getN (s.drop d) k m=Oct.getN s (d+k) m:=fun k m=>by unfold Oct.getN;rw[List.drop_drop]
 have hb:bodyAt (s.drop d) a=bodyAt s (d+a):=by unfold bodyAt;rw[hg,List.drop_drop,Nat.add_assoc]
 have hI:Is (s.drop d) a↔Is s (d+a):=by
  unfold Is
  rw[hg,hg,hb,List.length_drop,Nat.add_assoc d a 4]
  constructor
  ·rintro⟨h1,h2⟩;exact⟨by omega,h2⟩
  ·rintro⟨h1,h2⟩;exact⟨by omega,h2⟩
 by_cases h1:Is s (d+a)
 ·rw[getO_yes h1,getO_yes (hI.2 h1),hb,hg]
  simp only[Option.map_some]
  congr 2;omega
 ·rw[getO_no h1,getO_no (fun h=>h1 (hI.1 h))];rfl
structure Dk where
 sectors:List ByteArray
 left:Int
 down:Bool
structure Lo where
 from_:Int
 n:Int
 end_:Int
 safe:Int
 tail:ByteArray
instance:DecidableEq Lo:=fun a b=>
 if h:a.from_=b.from_∧a.n=b.n∧a.end_=b.end_∧a.safe=b.safe∧a.tail=b.tail then
  .isTrue (by obtain⟨a1,a2,a3,a4,a5⟩:=a;obtain⟨b1,b2,b3,b4,b5⟩:=b;simp only at h;obtain⟨rfl,rfl,rfl,rfl,rfl⟩:=h;rfl)
 else .isFalse (fun e=>h (by subst e;exact⟨rfl,rfl,rfl,rfl,rfl⟩))
def noLog:Lo:=⟨0,0,0,0,⟨#[]⟩⟩
def zero128:ByteArray:=⟨(List.replicate 128 0).toArray⟩
theorem zero128_size:zero128.size=128:=by unfold zero128;show(List.replicate 128 (0:UInt8)).toArray.size=_;simp
def newD (n:Nat):Dk:=⟨List.replicate n zero128,-1,false⟩
def armD (d:Dk)(n:Int):Dk:={d with left:=if n<0 then -1 else n}
def startD (d:Dk):Dk:={d with left:= -1,down:=false}
def hasD (d:Dk)(at_:Int):Prop:=0≤at_∧at_<(d.sectors.length:Int)
instance (d:Dk) (a:Int):Decidable (hasD d a):=by unfold hasD;exact inferInstance
def secAt (d:Dk)(at_:Int):ByteArray:=d.sectors[at_.toNat]?.getD ⟨#[]⟩
def readD (d:Dk)(at_:Int):ByteArray×Int:=if d.down then(⟨#[]⟩,20)else if hasD d at_ then(secAt d at_,0)else(⟨#[]⟩,1)
def writeD (d:Dk)(at_:Int)(b:ByteArray):Dk×Int:=
 if d.down then(d,20)else if ¬ (hasD d at_∧b.size=128)then(d,1)else if d.left=0 then({d with down:=true},20)
 else({d with sectors:=d.sectors.set at_.toNat b,left:=if 0<d.left then d.left-1 else d.left},0)
def secsD (d:Dk)(from_:Int):Nat→Except Int (List UInt8)
 |0=>.ok []
 |n+1=>if(readD d from_).2=0 then match secsD d (from_+1) n with
  | .ok l=>.ok ((readD d from_).1.data.toList++l)
  | .error e=>.error e
  else .error (readD d from_).2
def pad128 (l:List UInt8):ByteArray:=⟨(l++List.replicate (128-l.length) 0).toArray⟩
theorem pad128_size {l:List UInt8}(h:l.length≤128):(pad128 l).size=128:=by
 unfold pad128
 show(l++List.replicate (128-l.length) (0:UInt8)).toArray.size=_
 simp;omega
def cutW (l:List UInt8):List ByteArray:=if _h:l=[]then[]else pad128 (l.take 128)::cutW (l.drop 128)
termination_by l.length
decreasing_by
 cases l with
 |nil=>contradiction
 |cons a l=>simp;omega
theorem cutW_nil:cutW []=[]:=by rw[cutW];simp
theorem cutW_cons {l:List UInt8}(h:l≠[]):cutW l=pad128 (l.take 128)::cutW (l.drop 128):=by
 conv=>lhs;rw[cutW]
 rw[dif_neg h]
def cutB (s:ByteArray):List ByteArray:=cutW s.data.toList
theorem cutW_size (n:Nat):∀ l:List UInt8,l.length≤n→∀ b∈cutW l,b.size=128:=by
 induction n with
 |zero=>
  intro l hl b hb
  rw[List.eq_nil_of_length_eq_zero (l:=l) (by omega),cutW_nil]at hb
  cases hb
 |succ n ih=>
  intro l hl b hb
  by_cases h:l=[]
  ·rw[h,cutW_nil]at hb;cases hb
  ·rw[cutW_cons h]at hb
   rcases List.mem_cons.1 hb with h1|h1
   ·rw[h1];exact pad128_size (by rw[List.length_take];omega)
   ·have h0:0<l.length:=by cases l with
     |nil=>contradiction
     |cons a l=>simp
    exact ih _ (by rw[List.length_drop];omega) b h1
theorem cutW_length (n:Nat):∀ l:List UInt8,l.length≤n→(cutW l).length=(l.length+127)/128:=by
 induction n with
 |zero=>
  intro l hl
  rw[List.eq_nil_of_length_eq_zero (l:=l) (by omega),cutW_nil];rfl
 |succ n ih=>
  intro l hl
  by_cases h:l=[]
  ·rw[h,cutW_nil];rfl
  ·have h0:0<l.length:=by cases l with
    |nil=>contradiction
    |cons a l=>simp
   rw[cutW_cons h,List.length_cons,ih _ (by rw[List.length_drop];omega),List.length_drop]
   omega
theorem cutB_length (s:ByteArray):(cutB s).length=(s.size+127)/128:=by
 unfold cutB;rw[cutW_length _ _ (Nat.le_refl _)];simp
theorem cutB_size (s:ByteArray):∀ b∈cutB s,b.size=128:=cutW_size _ _ (Nat.le_refl _)
def putAll (base:Int)(all:List ByteArray):Nat→Dk→Dk×Int
 |0,d=>(d,0)
 |i+1,d=>if(writeD d (base+(i:Int)) (all[i]?.getD ⟨#[]⟩)).2=0 then putAll base all i (writeD d (base+(i:Int)) (all[i]?.getD ⟨#[]⟩)).1 else writeD d (base+(i:Int)) (all[i]?.getD ⟨#[]⟩)
def firstS (l:Lo):Int:=(l.end_-(l.tail.size:Int))/128
def allS (l:Lo):List ByteArray:=if firstS l+(cutB l.tail).length<l.n then cutB l.tail++[zero128]else cutB l.tail
def forcedL (l:Lo):Lo:={l with safe:=l.end_,tail:=l.tail.extract (l.tail.size-(l.end_%128).toNat) l.tail.size}
def forceD (d:Dk)(l:Lo):Dk×Lo×Int:=
 if l.safe=l.end_ then(d,l,0)else
 let x:=putAll (l.from_+firstS l) (allS l) (allS l).length d
 if x.2=0 then(x.1,forcedL l,0)else(x.1,l,x.2)
noncomputable def openD (d:Dk) (from_ n:Int):Lo×List Rc.Rec×Int:=
 match secsD d from_ n.toNat with
 | .error e=>(noLog,[],e)
 | .ok s=>
   let x:=openL s (s.length+1) 0
   (⟨from_,n,(x.2:Int),(x.2:Int),⟨((s.take x.2).drop (x.2-x.2%128)).toArray⟩⟩,x.1,0)
open Classical in
noncomputable def appendD (l:Lo) (r:Rc.Rec):Lo×Int×Int:=
 let r':Rc.Rec:={r with lsn:=l.end_+1}
 if ¬ Rc.Right r' then(l,0,1)else
 if l.n*128-((putR r').length:Int)<l.end_ then(l,0,18)else
 ({l with end_:=l.end_+((putR r').length:Int),tail:=l.tail++⟨(putR r').toArray⟩},l.end_+1,0)
noncomputable def readL (d:Dk) (l:Lo) (lsn:Int):Except Int Rc.Rec:=
 if lsn<1∨l.end_<lsn then .error 21 else
 let base:=(l.end_-(l.tail.size:Int))/128
 let first:=min ((lsn-1)/128) base
 match secsD d (l.from_+first) (base-first).toNat with
 | .error e=>.error e
 | .ok s=>match getO (s++l.tail.data.toList) (lsn-1-first*128).toNat with
   |none=>.error 21
   |some (r,_)=>if r.lsn=lsn then .ok r else .error 21
end Lg
namespace Go.Proofs.YtilakddepaplhaaGreat
open Go.RowKit
def strC (b:ByteArray):List Value:=[.string b]
theorem strC_len (b:ByteArray):(strC b).length=1:=rfl
theorem strC_map (l:List ByteArray):l.flatMap strC=l.map Value.string:=by
 induction l with
 |nil=>rfl
 |cons b l ih=>rw[List.flatMap_cons,ih];rfl
abbrev diskV (d:Lg.Dk)(A:Option Addr)(c:Nat):Value:=.agg #[.slice A d.sectors.length c,d.left,d.down]
structure DiskR (w:World) (d:Lg.Dk) (A:Option Addr) (c:Nat):Prop where
 secs:Reads w A c d.sectors.length (d.sectors.flatMap strC)
 small:d.sectors.length≤1000000
theorem DiskR.below {w w':World}{d:Lg.Dk}{A:Option Addr}{c:Nat}(h:DiskR w d A c)(hb:Below w.heap.size w w'):DiskR w' d A c:=⟨h.secs.below hb,h.small⟩
theorem has_any (d:Lg.Dk)(A:Option Addr)(c:Nat)(a:Int)(w:World):
 Calls Tryz.prog 76 #[diskV d A c,a] w fun e w'=>e= .returned (.bool (decide (Lg.hasD d a)))∧Below w.heap.size w w':=by
 obtain⟨L,left,down⟩:=d
 by_cases h0:0≤a
 ·by_cases h1:a<(L.length:Int)
  ·rw[decide_eq_true (show Lg.hasD ⟨L,left,down⟩ a from And.intro h0 h1)]
   go_enter Tryz.func76,Tryz.ntmps76
   go_wp2_with fail
   go_ret
   exact⟨by simp,allocB _ _⟩
  ·rw[decide_eq_false (show ¬ Lg.hasD ⟨L,left,down⟩ a from fun h=>h1 h.2)]
   go_enter Tryz.func76,Tryz.ntmps76
   go_wp2_with fail
   go_ret
   exact⟨by simp,allocB _ _⟩
 ·rw[decide_eq_false (show ¬ Lg.hasD ⟨L,left,down⟩ a from fun h=>h0 h.1)]
  go_enter Tryz.func76,Tryz.ntmps76
  go_wp2_with fail
  go_ret
  exact⟨by simp,allocB _ _⟩
theorem dread_any (d:Lg.Dk)(A:Option Addr)(c:Nat)(a:Int)(w:World)(h:DiskR w d A c):
 Calls Tryz.prog 36 #[diskV d A c,a] w fun e w'=>e= .returned (.tuple #[.string (Lg.readD d a).1,.int .i64 (Lg.readD d a).2])∧Below w.heap.size w w':=by
 have HH:=Hq (fun W=>has_any d A c a W)
 have HR:=Hq h.secs
 clear h
 unfold Lg.readD
 cases hd:d.down with
 |true=>
  obtain⟨L,left,down⟩:=d
  simp only at hd
  subst hd
  rw[if_pos rfl]
  dsimp only[diskV]
  go_enter Tryz.func36,Tryz.ntmps36
  go_wp2_with fail
  go_ret2
  exact⟨rfl,allocB _ _⟩
 |false=>
  rw[if_neg (by simp)]
  by_cases hh:Lg.hasD d a
  ·rw[if_pos hh]
   rw[decide_eq_true hh]at HH
   obtain⟨L,left,down⟩:=d
   simp only at hd
   subst hd
   unfold Lg.hasD at hh
   unfold Lg.secAt
   dsimp only[diskV]at hh HH HR ⊢
   obtain⟨h0,h1⟩:=hh
   obtain⟨k,rfl⟩:=Int.eq_ofNat_of_zero_le h0
   have hk:k<L.length:=by omega
   obtain⟨b,off,rfl,hc,hbl,hcell⟩:=read_at strC_len HR.out hk
   have q0:=hcell 0 _ rfl
   simp only[Nat.mul_one,Nat.add_zero]at q0
   rw[Int.toNat_natCast,List.getElem?_eq_getElem hk,Option.getD_some]
   generalize L[k]=x at q0 ⊢
   have Q0:=Hq q0
   clear q0 hcell h0
   go_enter Tryz.func36,Tryz.ntmps36
   go_upto_region 5 with(go_at_call 76;(with_reducible refine(HH.out _).mono ?_);rintro e w1 ⟨rfl,hb1⟩;have hbx:=blkCell (blkNew hb1))
   have q1:w1.cell? ⟨b,off+k,none⟩=some (.string x):=(joinB (allocB w _) hb1).cell (p:=⟨b,off+k,none⟩) hbl|>.trans Q0.out
   have HB1:=Hq (joinB (allocB w _) hb1)
   clear hb1
   go_wp2_with fail
   go_ret2
   exact⟨rfl,HB1.out⟩
  ·rw[if_neg hh]
   rw[decide_eq_false hh]at HH
   clear hh
   obtain⟨L,left,down⟩:=d
   simp only at hd
   subst hd
   dsimp only[diskV]at HH ⊢
   go_enter Tryz.func36,Tryz.ntmps36
   go_wp2_with (go_at_call 76;(with_reducible refine(HH.out _).mono ?_);rintro e w1 ⟨rfl,hb1⟩)
   go_ret2
   exact⟨rfl,joinB (allocB _ _) hb1⟩
def WriteOut (x:Lg.Dk×Int)(A:Option Addr)(w:World)(e:Ending)(w':World):Prop:=
 ∃ A' c',e= .returned (.tuple #[diskV x.1 A' c',x.2])∧DiskR w' x.1 A' c'∧(A'=A∨NewT w.heap.size w' 9 A')∧Below w.heap.size w w'
theorem clone_any (l:List ByteArray)(A:Option Addr)(c:Nat)(h0:0<l.length)(hl:l.length≤1000000)(w:World)(h:Reads w A c l.length (l.flatMap strC)):
 Calls Tryz.prog 91 #[.slice A l.length c] w fun e w'=>∃ v,e= .returned v∧w'.ownsRow w.heap.size 9 1 v l.length (l.map Value.string)∧Below w.heap.size w w':=by
 obtain⟨b,off,rfl,_,_,hcell⟩:=h h0
 refine(Tryz.slices_Clone_string b off l.length c l w (Nat.le_refl _) (by omega) (fun j hj=>?_)).mono ?_
 ·have h1:=hcell j (.string l[j]) (by rw[strC_map];simp[hj])
  rw[h1,List.getD_eq_getElem?_getD,List.getElem?_eq_getElem hj]
  rfl
 ·rintro e w' ⟨v,rfl,h1,_,h2⟩
  rw[List.take_length]at h1
  exact⟨v,rfl,h1,h2⟩
theorem write_keep {d:Lg.Dk}{A:Option Addr}{c:Nat}{w w':World}{dn:Bool}{k:Int}{x:Lg.Dk×Int}(hx:x=(⟨d.sectors,d.left,dn⟩,k))(h:DiskR w d A c)(hb:Below w.heap.size w w'):WriteOut x A w (.returned (.tuple #[.agg #[.slice A d.sectors.length c,d.left,dn],k])) w':=by
 subst hx
 exact⟨A,c,rfl,⟨h.secs.below hb,h.small⟩,.inl rfl,hb⟩
theorem write_new {L:List ByteArray}{A A':Option Addr}{n c:Nat}{w w':World}{left:Int}{x:Lg.Dk×Int}(hx:x=(⟨L,left,false⟩,0))(hn:L.length=n){vs:List Value}(h:Reads w' A' c n vs){M:List ByteArray}{k:Nat}{b:ByteArray}(hv:vs=(M.map Value.string).set k (.string b))(hL:L=M.set k b)(hl:L.length≤1000000)(hA:NewT w.heap.size w' 9 A')(hb:Below w.heap.size w w'):
 WriteOut x A w (.returned (.tuple #[.agg #[.slice A' n c,left,false],()])) w':=by
 subst hx hn
 refine⟨A',c,rfl,⟨?_,hl⟩,.inr hA,hb⟩
 rw[strC_map]
 show Reads w' A' c L.length (L.map Value.string)
 rw[hv]at h
 rw[hL,List.map_set]
 rw[hL]at h
 exact h
theorem dwrite_down (L:List ByteArray)(left:Int)(A:Option Addr)(c:Nat)(a:Int)(b:ByteArray)(x:Lg.Dk×Int)(hx:x=(⟨L,left,true⟩,20))(w:World)(h:DiskR w ⟨L,left,true⟩ A c):
 Calls Tryz.prog 49 #[.agg #[.slice A L.length c,left,true],a,b] w (WriteOut x A w):=by
 have HO:=Hq (fun w' hb=>write_keep (dn:=true) hx h (w':=w') hb)
 dsimp only at HO
 clear hx h
 go_enter Tryz.func49,Tryz.ntmps49
 go_upto_region 1 with fail
 have H0:=Hq (show BxL w.heap.size w [(#[.slice A L.length c,left,true],29),(#["s",(),false],29)] ((w.alloc (.cells #[.slice A L.length c,left,true] 29)).alloc (.cells #["s",(),false] 29))from((BxL.nil (Below.refl w.heap.size w)).new (by simp) #[.slice A L.length c,left,true] 29).new (by simp) #["s",(),false] 29)
 have hc0:=blkCell (H0.out.get 0 _ rfl)
 simp only[Nat.add_zero]at hc0
 obtain⟨W0,hW0⟩:∃ W,W=(w.alloc (.cells #[.slice A L.length c,left,true] 29)).alloc (.cells #["s",(),false] 29):=⟨_,rfl⟩
 rw[← hW0]at H0 hc0 ⊢
 clear hW0
 have HX0:=Hq (show W0.heap[w.heap.size]? =some (.cells #[.slice A L.length c,left,true] 29 (0,0))from(by have h:=H0.out.get 0 _ rfl;simpa using h))
 go_wp2_with (first|(with_reducible refine listLoad Kr 29 (.tmp 3) rfl w.heap.size rfl #[.slice A L.length c,left,true] _ HX0.out _ Tryz.underlying29 Kr Kr ?_)|(with_reducible refine listStore Kr 29 (.tmp 6) (.tmp 11) rfl (w.heap.size+1) #[.slice A L.length c,left,true] _ _ rfl rfl (H0.out.get 1 _ rfl) Kr Kr Kr ?_))
 refine bodyPost_ret (v:=.tuple #[.agg #[.slice A L.length c,left,true],.int .i64 20]) (results_cell2 rfl _ _ rfl (load_whole (setRow_heap _ _ _ _ _ _ (H0.out.get 1 _ rfl)) Tryz.underlying29 Kr Kr) rfl) rfl ?_
 exact HO.out _ ((H0.out.row 1 _ _ rfl).below)
theorem dwrite_arg (L:List ByteArray)(left:Int)(A:Option Addr)(c:Nat)(a:Int)(b:ByteArray)(hno:¬ (Lg.hasD ⟨L,left,false⟩ a∧b.size=128))(x:Lg.Dk×Int)(hx:x=(⟨L,left,false⟩,1))(w:World)(h:DiskR w ⟨L,left,false⟩ A c):
 Calls Tryz.prog 49 #[.agg #[.slice A L.length c,left,false],a,b] w (WriteOut x A w):=by
 have HO:=Hq (fun w' hb=>write_keep (dn:=false) hx h (w':=w') hb)
 dsimp only at HO
 have HH:=Hq (fun W=>has_any ⟨L,left,false⟩ A c a W)
 clear hx h
 by_cases hh:Lg.hasD ⟨L,left,false⟩ a
 ·rw[decide_eq_true hh]at HH
  have hs:¬ b.size=128:=fun e=>hno ⟨hh,e⟩
  have hs2:((b.size:Int)==128)=false:=by simp;omega
  have hs3:((b.size:Int) != 128)=true:=by simp;omega
  have hs4:(b.size==128)=false:=by simp;omega
  have hs5:(b.size != 128)=true:=by simp;omega
  clear hno hh
  dsimp only[diskV]at HH
  go_enter Tryz.func49,Tryz.ntmps49
  go_upto_region 1 with fail
  have H0:=Hq (show BxL w.heap.size w [(#[.slice A L.length c,left,false],29),(#["s",(),false],29)] ((w.alloc (.cells #[.slice A L.length c,left,false] 29)).alloc (.cells #["s",(),false] 29))from((BxL.nil (Below.refl w.heap.size w)).new (by simp) #[.slice A L.length c,left,false] 29).new (by simp) #["s",(),false] 29)
  have hc0:=blkCell (H0.out.get 0 _ rfl)
  simp only[Nat.add_zero]at hc0
  obtain⟨W0,hW0⟩:∃ W,W=(w.alloc (.cells #[.slice A L.length c,left,false] 29)).alloc (.cells #["s",(),false] 29):=⟨_,rfl⟩
  rw[← hW0]at H0 hc0 ⊢
  clear hW0
  have HX0:=Hq (show W0.heap[w.heap.size]? =some (.cells #[.slice A L.length c,left,false] 29 (0,0))from(by have h:=H0.out.get 0 _ rfl;simpa using h))
  go_upto_region 4 with(first|(with_reducible refine listLoad Kr 29 (.tmp 3) rfl w.heap.size rfl #[.slice A L.length c,left,false] _ HX0.out _ Tryz.underlying29 Kr Kr ?_)|(go_at_call 76;(with_reducible refine(HH.out _).mono ?_);rintro e w1 ⟨rfl,hb1⟩;have H1:=Hq (H0.out.step hb1);clear hb1;have hc1:=blkCell (H1.out.get 0 _ rfl);simp only[Nat.add_zero]at hc1))
  have HX1:=Hq (show w1.heap[w.heap.size]? =some (.cells #[.slice A L.length c,left,false] 29 (0,0))from(by have h:=H1.out.get 0 _ rfl;simpa using h))
  clear hs hs2 hs3 hs4 hs5
  go_wp2_with (first|(with_reducible refine listLoad Kr 29 (.tmp 3) rfl w.heap.size rfl #[.slice A L.length c,left,false] _ HX1.out _ Tryz.underlying29 Kr Kr ?_)|(with_reducible refine listStore Kr 29 (.tmp 6) (.tmp 22) rfl (w.heap.size+1) #[.slice A L.length c,left,false] _ _ rfl rfl (H1.out.get 1 _ rfl) Kr Kr Kr ?_))
  refine bodyPost_ret (v:=.tuple #[.agg #[.slice A L.length c,left,false],.int .i64 1]) (results_cell2 rfl _ _ rfl (load_whole (setRow_heap _ _ _ _ _ _ (H1.out.get 1 _ rfl)) Tryz.underlying29 Kr Kr) rfl) rfl ?_
  exact HO.out _ ((H1.out.row 1 _ _ rfl).below)
 ·rw[decide_eq_false hh]at HH
  clear hno hh
  dsimp only[diskV]at HH
  go_enter Tryz.func49,Tryz.ntmps49
  go_upto_region 1 with fail
  have H0:=Hq (show BxL w.heap.size w [(#[.slice A L.length c,left,false],29),(#["s",(),false],29)] ((w.alloc (.cells #[.slice A L.length c,left,false] 29)).alloc (.cells #["s",(),false] 29))from((BxL.nil (Below.refl w.heap.size w)).new (by simp) #[.slice A L.length c,left,false] 29).new (by simp) #["s",(),false] 29)
  have hc0:=blkCell (H0.out.get 0 _ rfl)
  simp only[Nat.add_zero]at hc0
  obtain⟨W0,hW0⟩:∃ W,W=(w.alloc (.cells #[.slice A L.length c,left,false] 29)).alloc (.cells #["s",(),false] 29):=⟨_,rfl⟩
  rw[← hW0]at H0 hc0 ⊢
  clear hW0
  have HX0:=Hq (show W0.heap[w.heap.size]? =some (.cells #[.slice A L.length c,left,false] 29 (0,0))from(by have h:=H0.out.get 0 _ rfl;simpa using h))
  go_upto_region 4 with(first|(with_reducible refine listLoad Kr 29 (.tmp 3) rfl w.heap.size rfl #[.slice A L.length c,left,false] _ HX0.out _ Tryz.underlying29 Kr Kr ?_)|(go_at_call 76;(with_reducible refine(HH.out _).mono ?_);rintro e w1 ⟨rfl,hb1⟩;have H1:=Hq (H0.out.step hb1);clear hb1;have hc1:=blkCell (H1.out.get 0 _ rfl);simp only[Nat.add_zero]at hc1))
  have HX1:=Hq (show w1.heap[w.heap.size]? =some (.cells #[.slice A L.length c,left,false] 29 (0,0))from(by have h:=H1.out.get 0 _ rfl;simpa using h))
  go_wp2_with (first|(with_reducible refine listLoad Kr 29 (.tmp 3) rfl w.heap.size rfl #[.slice A L.length c,left,false] _ HX1.out _ Tryz.underlying29 Kr Kr ?_)|(with_reducible refine listStore Kr 29 (.tmp 6) (.tmp 22) rfl (w.heap.size+1) #[.slice A L.length c,left,false] _ _ rfl rfl (H1.out.get 1 _ rfl) Kr Kr Kr ?_))
  refine bodyPost_ret (v:=.tuple #[.agg #[.slice A L.length c,left,false],.int .i64 1]) (results_cell2 rfl _ _ rfl (load_whole (setRow_heap _ _ _ _ _ _ (H1.out.get 1 _ rfl)) Tryz.underlying29 Kr Kr) rfl) rfl ?_
  exact HO.out _ ((H1.out.row 1 _ _ rfl).below)
theorem dwrite_out (L:List ByteArray)(A:Option Addr)(c:Nat)(a:Int)(b:ByteArray)(hh:Lg.hasD ⟨L,0,false⟩ a)(hs:b.size=128)(x:Lg.Dk×Int)(hx:x=(⟨L,0,true⟩,20))(w:World)(h:DiskR w ⟨L,0,false⟩ A c):
 Calls Tryz.prog 49 #[.agg #[.slice A L.length c,(),false],a,b] w (WriteOut x A w):=by
 have HO:=Hq (fun w' hb=>write_keep (dn:=true) hx h (w':=w') hb)
 dsimp only at HO
 have HH:=Hq (fun W=>has_any ⟨L,0,false⟩ A c a W)
 rw[decide_eq_true hh]at HH
 have hs1:((b.size:Int)==128)=true:=by simp;omega
 have hs2:((b.size:Int) != 128)=false:=by simp;omega
 have hs3:(b.size==128)=true:=by simp;omega
 have hs4:(b.size != 128)=false:=by simp;omega
 clear hx h hs hh
 dsimp only[diskV]at HH
 go_enter Tryz.func49,Tryz.ntmps49
 go_upto_region 1 with fail
 have H0:=Hq (show BxL w.heap.size w [(#[.slice A L.length c,(),false],29),(#["s",(),false],29)] ((w.alloc (.cells #[.slice A L.length c,(),false] 29)).alloc (.cells #["s",(),false] 29))from((BxL.nil (Below.refl w.heap.size w)).new (by simp) #[.slice A L.length c,(),false] 29).new (by simp) #["s",(),false] 29)
 have hc0:=blkCell (H0.out.get 0 _ rfl)
 simp only[Nat.add_zero]at hc0
 obtain⟨W0,hW0⟩:∃ W,W=(w.alloc (.cells #[.slice A L.length c,(),false] 29)).alloc (.cells #["s",(),false] 29):=⟨_,rfl⟩
 rw[← hW0]at H0 hc0 ⊢
 clear hW0
 have HX0:=Hq (show W0.heap[w.heap.size]? =some (.cells #[.slice A L.length c,(),false] 29 (0,0))from(by have h:=H0.out.get 0 _ rfl;simpa using h))
 go_upto_region 5 with(first|(with_reducible refine listLoad Kr 29 (.tmp 3) rfl w.heap.size rfl #[.slice A L.length c,(),false] _ HX0.out _ Tryz.underlying29 Kr Kr ?_)|(go_at_call 76;(with_reducible refine(HH.out _).mono ?_);rintro e w1 ⟨rfl,hb1⟩;have H1:=Hq (H0.out.step hb1);clear hb1;have hc1:=blkCell (H1.out.get 0 _ rfl);simp only[Nat.add_zero]at hc1))
 clear hs1 hs2 hs3 hs4
 have hz1:=blkFrozen (H1.out.get 0 _ rfl)
 simp only[Nat.add_zero]at hz1
 go_upto_region 7 with fail
 have HX2:=Hq (show(w1.setCell ⟨w.heap.size,2,none⟩ (.bool true)).heap[w.heap.size]? =some (.cells #[.slice A L.length c,(),true] 29 (0,0))from by have h:=(H1.out.set 0 2 (.bool true) _ rfl).get 0 _ rfl;simpa using h)
 have H2:=Hq (H1.out.set 0 2 (.bool true) _ rfl)
 go_wp2_with (first|(with_reducible refine listLoad Kr 29 (.tmp 3) rfl w.heap.size rfl #[.slice A L.length c,(),true] _ HX2.out _ Tryz.underlying29 Kr Kr ?_)|(with_reducible refine listStore Kr 29 (.tmp 6) (.tmp 28) rfl (w.heap.size+1) #[.slice A L.length c,(),true] _ _ rfl rfl (H2.out.get 1 _ rfl) Kr Kr Kr ?_))
 refine bodyPost_ret (v:=.tuple #[.agg #[.slice A L.length c,(),true],.int .i64 20]) (results_cell2 rfl _ _ rfl (load_whole (setRow_heap _ _ _ _ _ _ (H2.out.get 1 _ rfl)) Tryz.underlying29 Kr Kr) rfl) rfl ?_
 exact HO.out _ ((H2.out.row 1 _ _ rfl).below)
theorem dwrite_on (L:List ByteArray)(left:Int)(hl0:left≠0)(hlb: -9223372036854775808≤left∧left≤9223372036854775807)(A:Option Addr)(c:Nat)(k:Nat)(b:ByteArray)(hk:k<L.length)(hs:b.size=128)(x:Lg.Dk×Int)(hx:x=(⟨L.set k b,if 0<left then left-1 else left,false⟩,0))(w:World)(h:DiskR w ⟨L,left,false⟩ A c):
 Calls Tryz.prog 49 #[.agg #[.slice A L.length c,left,false],.int .i64 (k:Int),b] w (WriteOut x A w):=by
 have HH:=Hq (fun W=>has_any ⟨L,left,false⟩ A c k W)
 rw[decide_eq_true (show Lg.hasD ⟨L,left,false⟩ (k:Int)from⟨by omega,by show(k:Int)<(L.length:Int);omega⟩)]at HH
 have hs1:((b.size:Int)==128)=true:=by simp;omega
 have hs2:((b.size:Int) != 128)=false:=by simp;omega
 have hs3:(b.size==128)=true:=by simp;omega
 have hs4:(b.size != 128)=false:=by simp;omega
 have hl1:(left==0)=false:=by simpa using hl0
 have hlen:L.length≤1000000:=h.small
 have HC:=Hq (fun W (hb:Below w.heap.size w W)=>clone_any L A c (by omega) hlen W (h.secs.below hb))
 have HX:=Hq hx
 have hkI:(k:Int)<(L.length:Int):=by omega
 clear hx h hs
 dsimp only[diskV]at HH
 go_enter Tryz.func49,Tryz.ntmps49
 go_upto_region 1 with fail
 have H0:=Hq (show BxL w.heap.size w [(#[.slice A L.length c,left,false],29),(#["s",(),false],29)] ((w.alloc (.cells #[.slice A L.length c,left,false] 29)).alloc (.cells #["s",(),false] 29))from((BxL.nil (Below.refl w.heap.size w)).new (by simp) #[.slice A L.length c,left,false] 29).new (by simp) #["s",(),false] 29)
 have hc0:=blkCell (H0.out.get 0 _ rfl)
 simp only[Nat.add_zero]at hc0
 obtain⟨W0,hW0⟩:∃ W,W=(w.alloc (.cells #[.slice A L.length c,left,false] 29)).alloc (.cells #["s",(),false] 29):=⟨_,rfl⟩
 rw[← hW0]at H0 hc0 ⊢
 clear hW0
 have HX0:=Hq (show W0.heap[w.heap.size]? =some (.cells #[.slice A L.length c,left,false] 29 (0,0))from(by have h:=H0.out.get 0 _ rfl;simpa using h))
 go_upto_region 8 with(first|(with_reducible refine listLoad Kr 29 (.tmp 3) rfl w.heap.size rfl #[.slice A L.length c,left,false] _ HX0.out _ Tryz.underlying29 Kr Kr ?_)|(go_at_call 76;(with_reducible refine(HH.out _).mono ?_);rintro e w1 ⟨rfl,hb1⟩;have H1:=Hq (H0.out.step hb1);clear hb1;have hc1:=blkCell (H1.out.get 0 _ rfl);simp only[Nat.add_zero]at hc1))
 clear hs1 hs2 hs3 hs4 hl1 HH hc0 HX0 H0
 go_upto_region 9 with(first|(go_at_call 91;(with_reducible refine(HC.out _ H1.out.below).mono ?_);rintro e w2 ⟨v,rfl,ho,hb2⟩;obtain⟨A2,c2,rfl⟩:=ownLen ho;have H2:=Hq (H1.out.step hb2);have hz2:=blkFrozen (H2.out.get 0 _ rfl);have hc2:=blkCell (H2.out.get 0 _ rfl);simp only[Nat.add_zero]at hc2 hz2;clear hb2 hc1))
 clear hc2 hz2
 have hsz:=H1.out.lt (i:=1) (by simp)
 have ho2:=ownSet ho ⟨w.heap.size,0,none⟩ (.slice A2 L.length c2) (by show w.heap.size<_;omega)
 obtain⟨g,cap,hv,hg,hgl,hcap,hcl,hfz,hset⟩:=ownAt ho2 hk
 injection hv with hv1 hv2 hv3
 subst hv1 hv3
 have H3:=Hq (H2.out.set 0 0 (.slice (some ⟨g,0,none⟩) L.length c2) _ rfl)
 simp only[Nat.add_zero]at H3
 obtain⟨W3,hW3⟩:∃ W,W=w2.setCell ⟨w.heap.size,0,none⟩ (.slice (some ⟨g,0,none⟩) L.length c2):=⟨_,rfl⟩
 rw[← hW3]at H3 hcl hfz hset hgl ⊢
 have hc3:=blkCell (H3.out.get 0 _ rfl)
 simp only[Nat.add_zero]at hc3
 rw[List.getElem?_eq_getElem (by simpa using hk)]at hcl
 simp only[List.getElem_map]at hcl
 have HSET:=Hq hset
 clear hW3 H2 ho ho2 hset
 go_upto_region 10 with fail
 have hgw:w.heap.size+2≤g:=by omega
 have H4:=Hq (H3.out.under (M:=g) (by show w.heap.size+2≤g;exact hgw) ((Below.refl g W3).setCell (p:=⟨g,k,none⟩) (Nat.le_refl g) (.string b)))
 have HO4:=Hq (HSET.out (.string b))
 obtain⟨W4,hW4⟩:∃ W,W=W3.setCell ⟨g,k,none⟩ (.string b):=⟨_,rfl⟩
 rw[← hW4]at H4 HO4 ⊢
 have hc4:=blkCell (H4.out.get 0 _ rfl)
 have hz4:=blkFrozen (H4.out.get 0 _ rfl)
 simp only[Nat.add_zero]at hc4 hz4
 clear hW4 hc3 hcl hfz HSET
 by_cases hp:0<left
 ·rw[if_pos hp]at HX
  have hwl:IntKind.i64.wrap (left-1)=left-1:=IntWalk.i64_in _ (by omega)
  go_upto_region 12 with fail
  have H5:=Hq (H4.out.set 0 1 (.int .i64 (left-1)) _ rfl)
  have HX5:=Hq (show(W4.setCell ⟨w.heap.size,1,none⟩ (.int .i64 (left-1))).heap[w.heap.size]? =some (.cells #[.slice (some ⟨g,0,none⟩) L.length c2,.int .i64 (left-1),false] 29 (0,0))from by have h:=H5.out.get 0 _ rfl;simpa using h)
  have HO5:=Hq (ownSet HO4.out ⟨w.heap.size,1,none⟩ (.int .i64 (left-1)) (by show w.heap.size<_;omega))
  go_wp2_with (first|(with_reducible refine listLoad Kr 29 (.tmp 3) rfl w.heap.size rfl #[.slice (some ⟨g,0,none⟩) L.length c2,.int .i64 (left-1),false] _ HX5.out _ Tryz.underlying29 Kr Kr ?_)|(with_reducible refine listStore Kr 29 (.tmp 6) (.tmp 45) rfl (w.heap.size+1) #[.slice (some ⟨g,0,none⟩) L.length c2,.int .i64 (left-1),false] _ _ rfl rfl (H5.out.get 1 _ rfl) Kr Kr Kr ?_))
  refine bodyPost_ret (v:=.tuple #[.agg #[.slice (some ⟨g,0,none⟩) L.length c2,.int .i64 (left-1),false],()]) (results_cell2 rfl _ _ rfl (load_whole (setRow_heap _ _ _ _ _ _ (H5.out.get 1 _ rfl)) Tryz.underlying29 Kr Kr) rfl) rfl ?_
  exact write_new HX.out (by rw[List.length_set]) ((own_reads HO5.out).offRow _ _ (fun _ ad e=>(by injection e with e;rw[← e];show g≠w.heap.size+1;omega))) rfl rfl (by rw[List.length_set];exact hlen) (((NewT.own HO5.out).row _ _).mono (by omega)) ((H5.out.row 1 _ _ rfl).below)
 ·rw[if_neg hp]at HX
  have HX4:=Hq (show W4.heap[w.heap.size]? =some (.cells #[.slice (some ⟨g,0,none⟩) L.length c2,left,false] 29 (0,0))from(by have h:=H4.out.get 0 _ rfl;simpa using h))
  go_wp2_with (first|(with_reducible refine listLoad Kr 29 (.tmp 3) rfl w.heap.size rfl #[.slice (some ⟨g,0,none⟩) L.length c2,left,false] _ HX4.out _ Tryz.underlying29 Kr Kr ?_)|(with_reducible refine listStore Kr 29 (.tmp 6) (.tmp 45) rfl (w.heap.size+1) #[.slice (some ⟨g,0,none⟩) L.length c2,left,false] _ _ rfl rfl (H4.out.get 1 _ rfl) Kr Kr Kr ?_))
  refine bodyPost_ret (v:=.tuple #[.agg #[.slice (some ⟨g,0,none⟩) L.length c2,left,false],()]) (results_cell2 rfl _ _ rfl (load_whole (setRow_heap _ _ _ _ _ _ (H4.out.get 1 _ rfl)) Tryz.underlying29 Kr Kr) rfl) rfl ?_
  exact write_new HX.out (by rw[List.length_set]) ((own_reads HO4.out).offRow _ _ (fun _ ad e=>(by injection e with e;rw[← e];show g≠w.heap.size+1;omega))) rfl rfl (by rw[List.length_set];exact hlen) (((NewT.own HO4.out).row _ _).mono (by omega)) ((H4.out.row 1 _ _ rfl).below)
theorem dwrite_any (d:Lg.Dk)(hlb: -9223372036854775808≤d.left∧d.left≤9223372036854775807)(A:Option Addr)(c:Nat)(a:Int)(b:ByteArray)(w:World)(h:DiskR w d A c):
 Calls Tryz.prog 49 #[diskV d A c,a,b] w (WriteOut (Lg.writeD d a b) A w):=by
 obtain⟨L,left,down⟩:=d
 cases down with
 |true=>exact dwrite_down L left A c a b _ (by unfold Lg.writeD;rw[if_pos rfl]) w h
 |false=>
  by_cases h1:Lg.hasD ⟨L,left,false⟩ a∧b.size=128
  ·by_cases h2:left=0
   ·subst h2
    exact dwrite_out L A c a b h1.1 h1.2 _ (by unfold Lg.writeD;rw[if_neg (by simp),if_neg (fun hn=>hn h1),if_pos rfl]) w h
   ·obtain⟨k,rfl⟩:=Int.eq_ofNat_of_zero_le h1.1.1
    have hk:k<L.length:=by have h3:=h1.1.2;simp only at h3;omega
    exact dwrite_on L left h2 hlb A c k b hk h1.2 _ (by unfold Lg.writeD;rw[if_neg (by simp),if_neg (fun hn=>hn h1),if_neg h2];simp) w h
  ·exact dwrite_arg L left A c a b h1 _ (by unfold Lg.writeD;rw[if_neg (by simp),if_pos h1]) w h
theorem make_zeros (n:Nat)(hn:n≤4096)(W:World):(Instr.makeSlice 120 (.int .i64 (n:Int)) (.int .i64 (n:Int))).run Tryz.prog W= .ok (.slice (some ⟨W.heap.size,0,none⟩) n n) (W.alloc (.cells (madeCells #[Value.int .u8 0] n) 5)):=by
 obtain⟨i0,hi,hz0,hz1,hz2⟩:=info_parts info_byte
 have h:=run_make (P:=Tryz.prog) W 120 5 i0 (.int .u8 0) Tryz.underlying120 hi hz0 .i64 .i64 n n (by omega) (by omega) (by rw[hz2];omega) (by omega)
 rw[hz1,Int.toNat_natCast,Nat.mul_one]at h
 exact h
theorem zeros_back (n:Nat)(W:World):(convert 120 9 (.slice (some ⟨W.heap.size,0,none⟩) n n)).run Tryz.prog (W.alloc (.cells (madeCells #[Value.int .u8 0] n) 5))= .ok (.string ⟨(List.replicate n 0).toArray⟩) (W.alloc (.cells (madeCells #[Value.int .u8 0] n) 5)):=by
 have h:=run_convert_bytes_back (P:=Tryz.prog) (W.alloc (.cells (madeCells #[Value.int .u8 0] n) 5)) 120 9 5 ⟨W.heap.size,0,none⟩ n (List.replicate n 0) Tryz.underlying120 Tryz.underlying5 Tryz.underlying9 (fun j hj=>by
  have hj':j<n:=by simpa using hj
  have ha:(⟨W.heap.size,0,none⟩:Addr).add j=⟨W.heap.size,j,none⟩:=by
   unfold Addr.add;split
   ·rename_i h;rw[h]
   ·simp
  rw[ha,World.cell?_alloc_new]
  simp[madeCells,hj',Nat.mod_one])
 rw[List.length_replicate]at h
 exact h
theorem info_string:(Tryz.prog.info? 9).map (fun i=>(i.zero,i.size,i.bytes))=some (some (.string ⟨#[]⟩),1,16):=by kernel_rfl
theorem arm_any (d:Lg.Dk)(A:Option Addr)(c:Nat)(n:Int)(w:World):
 Calls Tryz.prog 28 #[diskV d A c,n] w fun e w'=>e= .returned (diskV (Lg.armD d n) A c)∧Below w.heap.size w w':=by
 obtain⟨L,left,down⟩:=d
 unfold Lg.armD
 dsimp only[diskV]
 by_cases hn:n<0
 ·rw[if_pos hn]
  go_enter Tryz.func28,Tryz.ntmps28
  go_upto_region 1 with fail
  have H0:=Hq (show BxL w.heap.size w [(#[.slice A L.length c,left,down],29),(#["s",(),false],29)] ((w.alloc (.cells #[.slice A L.length c,left,down] 29)).alloc (.cells #["s",(),false] 29))from((BxL.nil (Below.refl w.heap.size w)).new (by simp) #[.slice A L.length c,left,down] 29).new (by simp) #["s",(),false] 29)
  obtain⟨W0,hW0⟩:∃ W,W=(w.alloc (.cells #[.slice A L.length c,left,down] 29)).alloc (.cells #["s",(),false] 29):=⟨_,rfl⟩
  rw[← hW0]at H0 ⊢
  have hc0:=blkCell (H0.out.get 0 _ rfl)
  have hz0:=blkFrozen (H0.out.get 0 _ rfl)
  simp only[Nat.add_zero]at hc0 hz0
  clear hW0
  go_upto_region 4 with fail
  have H1:=Hq (H0.out.set 0 1 (.int .i64 (-1)) _ rfl)
  have HX1:=Hq (show(W0.setCell ⟨w.heap.size,1,none⟩ (.int .i64 (-1))).heap[w.heap.size]? =some (.cells #[.slice A L.length c,.int .i64 (-1),down] 29 (0,0))from by have h:=H1.out.get 0 _ rfl;simpa using h)
  go_wp2_with (first|(with_reducible refine listLoad Kr 29 (.tmp 2) rfl w.heap.size rfl #[.slice A L.length c,.int .i64 (-1),down] _ HX1.out _ Tryz.underlying29 Kr Kr ?_)|(with_reducible refine listStore Kr 29 (.tmp 4) (.tmp 9) rfl (w.heap.size+1) #[.slice A L.length c,.int .i64 (-1),down] _ _ rfl rfl (H1.out.get 1 _ rfl) Kr Kr Kr ?_))
  refine bodyPost_ret (v:=.agg #[.slice A L.length c,.int .i64 (-1),down]) (results_cell rfl _ _ rfl (load_whole (setRow_heap _ _ _ _ _ _ (H1.out.get 1 _ rfl)) Tryz.underlying29 Kr Kr)) rfl ?_
  exact⟨rfl,(H1.out.row 1 _ _ rfl).below⟩
 ·rw[if_neg hn]
  go_enter Tryz.func28,Tryz.ntmps28
  go_upto_region 1 with fail
  have H0:=Hq (show BxL w.heap.size w [(#[.slice A L.length c,left,down],29),(#["s",(),false],29)] ((w.alloc (.cells #[.slice A L.length c,left,down] 29)).alloc (.cells #["s",(),false] 29))from((BxL.nil (Below.refl w.heap.size w)).new (by simp) #[.slice A L.length c,left,down] 29).new (by simp) #["s",(),false] 29)
  obtain⟨W0,hW0⟩:∃ W,W=(w.alloc (.cells #[.slice A L.length c,left,down] 29)).alloc (.cells #["s",(),false] 29):=⟨_,rfl⟩
  rw[← hW0]at H0 ⊢
  have hc0:=blkCell (H0.out.get 0 _ rfl)
  have hz0:=blkFrozen (H0.out.get 0 _ rfl)
  simp only[Nat.add_zero]at hc0 hz0
  clear hW0
  go_upto_region 4 with fail
  have H1:=Hq (H0.out.set 0 1 (.int .i64 n) _ rfl)
  have HX1:=Hq (show(W0.setCell ⟨w.heap.size,1,none⟩ (.int .i64 n)).heap[w.heap.size]? =some (.cells #[.slice A L.length c,n,down] 29 (0,0))from by have h:=H1.out.get 0 _ rfl;simpa using h)
  go_wp2_with (first|(with_reducible refine listLoad Kr 29 (.tmp 2) rfl w.heap.size rfl #[.slice A L.length c,n,down] _ HX1.out _ Tryz.underlying29 Kr Kr ?_)|(with_reducible refine listStore Kr 29 (.tmp 4) (.tmp 9) rfl (w.heap.size+1) #[.slice A L.length c,n,down] _ _ rfl rfl (H1.out.get 1 _ rfl) Kr Kr Kr ?_))
  refine bodyPost_ret (v:=.agg #[.slice A L.length c,n,down]) (results_cell rfl _ _ rfl (load_whole (setRow_heap _ _ _ _ _ _ (H1.out.get 1 _ rfl)) Tryz.underlying29 Kr Kr)) rfl ?_
  exact⟨rfl,(H1.out.row 1 _ _ rfl).below⟩
end Go.Proofs.YtilakddepaplhaaGreat
namespace Lg
theorem repeat_zero (n:Nat):(⟨(Go.Lib.repeatL [(0:UInt8)] n).toArray⟩:ByteArray)=⟨(List.replicate n 0).toArray⟩:=by
 congr 2
 induction n with
 |zero=>rfl
 |succ n ih=>
  rw[List.replicate_succ,← ih]
  rfl
theorem pad_join (t:ByteArray)(m:Nat)(hm:m=min t.size 128):t.extract 0 m++(⟨(Go.Lib.repeatL [(0:UInt8)] (128-m)).toArray⟩:ByteArray)=pad128 (t.data.toList.take 128):=by
 rw[repeat_zero]
 unfold pad128
 apply ByteArray.ext
 rw[ByteArray.data_append]
 apply Array.toList_inj.1
 rw[Array.toList_append]
 have e:(t.extract 0 m).data.toList=t.data.toList.take 128:=by
  simp only[ByteArray.data_extract,Array.toList_extract,List.extract_eq_take_drop,Nat.sub_zero,List.drop_zero]
  have hl:t.data.toList.length=t.size:=by simp
  by_cases h:t.size≤128
  ·rw[List.take_of_length_le (by omega),List.take_of_length_le (by omega)]
  ·rw[show m=128 by omega]
 have hl:(t.data.toList.take 128).length=m:=by rw[List.length_take];simp;omega
 rw[e,hl]
theorem cut_next (t:ByteArray)(m:Nat)(hm:m=min t.size 128)(h0:0<t.size):cutB t=pad128 (t.data.toList.take 128)::cutB (t.extract m t.size):=by
 unfold cutB
 have h1:t.data.toList≠[]:=fun e=>by
  have hl:t.data.toList.length=t.size:=by simp
  rw[e,List.length_nil]at hl
  omega
 rw[cutW_cons h1]
 congr 2
 simp only[ByteArray.data_extract,Array.toList_extract,List.extract_eq_take_drop]
 have hl:t.data.toList.length=t.size:=by simp
 rw[List.take_of_length_le (by rw[List.length_drop];omega)]
 by_cases h:t.size≤128
 ·rw[List.drop_of_length_le (i:=128) (by omega),List.drop_of_length_le (i:=m) (by omega)]
 ·rw[show m=128 by omega]
theorem cut_none (t:ByteArray)(h0:t.size=0):cutB t=[]:=by
 unfold cutB
 have h1:t.data.toList=[]:=List.eq_nil_of_length_eq_zero (by simpa using h0)
 rw[h1,cutW_nil]
end Lg
namespace Go.Proofs.YtilakddepaplhaaGreat
open Go.RowKit
abbrev logV (l:Lg.Lo):Value:=.agg #[l.from_,l.n,l.end_,l.safe,l.tail]
theorem lnew_any (a n:Int)(w:World):
 Calls Tryz.prog 24 #[a,n] w fun e w'=>e= .returned (logV ⟨a,n,0,0,⟨#[]⟩⟩)∧Below w.heap.size w w':=by
 have HZ:=Hq (heap_alloc_new w (.cells #[(),(),(),(),""] 31))
 go_enter Tryz.func24,Tryz.ntmps24
 go_wp2_with (with_reducible refine listStore Kr 31 (.tmp 4) (.tmp 7) rfl w.heap.size #[a,n,(),(),""] _ _ rfl rfl HZ.out Kr Kr Kr ?_)
 refine bodyPost_ret (v:=.agg #[a,n,(),(),""]) (results_cell rfl _ _ rfl (load_whole (setRow_heap _ _ _ _ _ _ HZ.out) Tryz.underlying31 Kr Kr)) rfl ?_
 exact⟨rfl,((BxL.nil (Below.refl w.heap.size w)).new (by simp) #[(),(),(),(),""] 31).row 0 _ _ rfl|>.below⟩
def CutOut (l:List ByteArray)(w:World)(e:Ending)(w':World):Prop:=∃ v,e= .returned v∧OwnL strC 1 9 w.heap.size w' v l∧Below w.heap.size w w'
theorem cut_any (s:ByteArray)(hs:s.size≤1000000)(w:World):
 Calls Tryz.prog 68 #[s] w (CutOut (Lg.cutB s) w):=by
 have HF:=Hq (fun v w' (ho:OwnL strC 1 9 w.heap.size w' v (Lg.cutB s)) (hb:Below w.heap.size w w')=>show CutOut (Lg.cutB s) w (.returned v) w' from⟨v,rfl,ho,hb⟩)
 generalize CutOut (Lg.cutB s) w=Q at HF ⊢
 obtain⟨C,hC⟩:∃ C,C=Lg.cutB s:=⟨_,rfl⟩
 have hcl:C.length≤8000:=by rw[hC,Lg.cutB_length];omega
 rw[← hC]at HF
 have HC:=Hq hC
 have HR:=Hq (fun(c:Nat) (hc:c≤128) W=>Tryz.strings_Repeat ⟨#[0]⟩ c W (by omega) (show(⟨#[0]⟩:ByteArray).size*c≤140737488355328 from(by show 1*c≤_;have:c≤128:=hc;omega)))
 clear hC
 go_enter Tryz.func68,Tryz.ntmps68
 go_wp2_with fail
 go_loopw [0,3] (fun s0 v wr=>∃ (t:ByteArray) (ls:List ByteArray),s0= .string t∧t.size≤1000000∧ls++Lg.cutB t=C∧OwnL strC 1 9 w.heap.size wr v ls∧Below w.heap.size w wr) (fun s0 _ _=>(match s0 with| .string t=>t.size|_=>0))
 case atStart=>exact⟨s,[],rfl,hs,HC.out.symm,ownNil _ _ _ _,Below.refl _ _⟩
 case round=>
  obtain⟨t,ls,rfl,hts,hC2,hO,hB⟩:=hrel
  have HB:=Hq hB
  have hll:ls.length≤8000:=by have:=congrArg List.length hC2;rw[List.length_append]at this;omega
  have HC2:=Hq hC2
  clear hB hC2
  by_cases h0:0<t.size
  ·obtain⟨m,hm⟩:∃ m,m=min t.size 128:=⟨_,rfl⟩
   have hmm:min (t.size:Int) 128=(m:Int):=by omega
   have hm1:m≤t.size:=by omega
   have hm2:m≤128:=by omega
   have hm3:(0:Int)≤(m:Int):=by omega
   have hm4:(m:Int)≤(t.size:Int):=by omega
   have hsub:(128:Int)-(m:Int)=((128-m:Nat):Int):=by omega
   have hwr:IntKind.i64.wrap ((128:Int)-(m:Int))=((128-m:Nat):Int):=by rw[hsub];exact IntWalk.i64_in _ (by omega)
   have hwr2:IntKind.i64.wrap ((128-m:Nat):Int)=((128-m:Nat):Int):=IntWalk.i64_in _ (by omega)
   have HJ:=Hq (Lg.pad_join t m hm)
   have HN:=Hq (Lg.cut_next t m hm h0)
   have hpz:=Lg.pad128_size (l:=t.data.toList.take 128) (by rw[List.length_take];omega)
   have hxs:(t.extract m t.size).size<t.size:=by rw[ByteArray.size_extract];omega
   have HXS:=Hq hxs
   have hR:=HR.out (128-m) (show 128-m≤128 by omega)
   have hsum:(t.extract 0 m).size+(⟨(Lib.repeatL [(0:UInt8)] (128-m)).toArray⟩:ByteArray).size≤9223372036854775807:=by
    rw[Lg.repeat_zero,ByteArray.size_extract]
    show _+(List.replicate (128-m) (0:UInt8)).toArray.size≤_
    simp
    omega
   have HRR:=Hq hR
   obtain⟨z,hz⟩:∃ z:ByteArray,z=⟨(Lib.repeatL [(0:UInt8)] (128-m)).toArray⟩:=⟨_,rfl⟩
   obtain⟨y,hy⟩:∃ y:ByteArray,y=Lg.pad128 (t.data.toList.take 128):=⟨_,rfl⟩
   have HRZ:Hid (∀ W,Calls Tryz.prog 50 #[.string ⟨#[0]⟩,.int .i64 ((128-m:Nat):Int)] W fun e w'=>e= .returned (.string z)∧Below W.heap.size W w'):=Hq (by rw[hz];exact hR)
   rw[← hz]at HJ hsum
   rw[← hy]at HJ HN hpz
   have hadd:∀ W:World,(Op.stringOp .add (t.extract 0 m) z).run Tryz.prog W= .ok (.string y) W:=fun W=>by rw[← HJ.out];exact run_string_add_sum W _ _ hsum
   obtain⟨r,hr⟩:∃ r:Nat,r=128-m:=⟨_,rfl⟩
   rw[← hr]at hsub hwr hwr2 HRZ
   clear hR HR HRR hm hz hy hxs hr hsum
   obtain⟨A,c,rfl⟩:=ownLen hO
   go_upto_region 4 with fail
   have hO0:=ownBelow hO (Below.refl _ wr).drew
   have hB0:=HB.out.drew
   refine wp_region_held_drew (S:=(fun _=>True)) Kr ?_ (fun hHeld=>?_)
   ·trivial
   refine tkW 0 (some 11) (v:=?_) rfl ?_ (tkW 1 (some 12) (v:=?_) rfl ?_ (tkW 2 (some 13) (v:=?_) rfl ?_ (tkW 3 (some 14) (v:=?_) rfl ?_ (tkW 4 (some 15) (v:=?_) rfl ?_ (tkW 5 (some 16) (v:=?_) rfl ?_ ?_)))))
   iterate 6 (rotate_left;focus(intro u hSu;clear hSu;go_simp;(try with_reducible rfl)))
   try simp only[Act.put,pS]
   refine rdH 6 (some 17) rfl (fun K hK=>?_)
   go_simp
   refine(HRZ.out _).mono ?_;rintro e w1 ⟨rfl,hb1⟩;have hO1:=ownBelow hO0 hb1;have hB1:=hB0.trans (hb1.mono hB0.size);try go_simp
   refine hK.out _ _ ?_ (fun hHeld=>?_)
   ·trivial
   clear hK K
   try simp only[Act.put,pS]
   refine tkW 7 (some 18) (v:=?_) rfl ?_ ?_
   rotate_left
   ·intro u hSu;clear hSu;go_simp;(try with_reducible rfl)
   try simp only[Act.put,pS]
   refine rdH 8 (some 19) rfl (fun K hK=>?_)
   go_simp
   have hO2:=ownBelow hO1 (allocB w1 (.cells #[y] 9));have hB2:=hB1.alloc hB1.size (.cells #[y] 9);have hG:=heap_alloc_new w1 (.cells #[y] 9)
   refine hK.out _ _ ?_ (fun hHeld=>?_)
   ·trivial
   clear hK K
   try simp only[Act.put,pS]
   refine rdH 9 (some 20) rfl (fun K hK=>?_)
   refine wantedIf (by rfl) ?_
   refine wp_push _ (.tmp 11) (.tmp 19) 27 9 Tryz.underlying27 info_string rfl (by omega) (by omega) rfl w.heap.size _ ls.length (ls.flatMap strC) rfl hO2 w1.heap.size (strC y) 9 rfl hG rfl (by simp[strC,Value.oneCell']) (by omega) hB2.size ?_
   intro v7 w7 ho hg hb
   have hB7:=hB2.trans hb
   refine hK.out _ _ ?_ (fun hHeld=>?_)
   ·trivial
   clear hK K
   try simp only[Act.put,pS]
   refine tkW 10 (some 3) (v:=?_) rfl ?_ ?_
   rotate_left
   ·intro u hSu;clear hSu;go_simp;(try with_reducible rfl)
   try simp only[Act.put,pS]
   refine wpAnyH_done Kr ?_ _
   have HO7:=Hq (OwnL.push (enc:=strC) (x:=y) ho)
   have HB7:=Hq hB7
   clear hO hO0 hO1 hO2 hB0 hB1 hB2 hB7 ho hg hb hG hHeld HB hadd hpz
   go_wp2_with fail
   go_roundw
   case rel=>exact⟨_,ls++[y],rfl,by have:=HXS.out;omega,by rw[List.append_assoc];have h:=HC2.out;rw[HN.out]at h;exact h,HO7.out,HB7.out⟩
   case measure=>exact HXS.out
  ·have h00:t.size=0:=by omega
   have hfin:ls=C:=by have h:=HC2.out;rwa[Lg.cut_none t h00,List.append_nil]at h
   subst hfin
   go_wp2_with fail
   exact HF.out _ _ hO HB.out
theorem getN_small (s:List UInt8)(a k:Nat):Oct.getN s a k<256^k:=by
 have h1:=Oct.getL_lt ((s.drop a).take k)
 have h2:256^((s.drop a).take k).length≤256^k:=Nat.pow_le_pow_right (by omega) (by rw[List.length_take];omega)
 unfold Oct.getN;omega
theorem getText_any (s:ByteArray)(a:Nat)(hm:s.size≤1000000000)(ha:a≤2000000000)(w:World):
 Calls Tryz.prog 178 #[s,.int .i64 (a:Int)] w fun e w'=>e= .returned (if a+2+Oct.getN s.data.toList a 2≤s.size then .tuple #[.string (s.extract (a+2) (a+2+Oct.getN s.data.toList a 2)),.int .i64 ((a+2+Oct.getN s.data.toList a 2:Nat):Int),true]else .tuple #["",(),false])∧Below w.heap.size w w':=by
 by_cases hin:a+2≤s.size
 ·have hpow:=getN_small s.data.toList a 2
  have HG:=Hq (fun W=>get_yes s a 2 (by omega) (by omega) hin (by omega) W)
  generalize Oct.getN s.data.toList a 2=n at hpow HG ⊢
  have hn:n<65536:=by simpa using hpow
  rw[show Oct.intOf n=(n:Int)from by unfold Oct.intOf;rw[if_pos (by omega)]]at HG
  clear hpow
  by_cases he:a+2+n≤s.size
  ·rw[if_pos he]
   have t1:¬ ((s.size:Int)-(a:Int)-2<(n:Int)):=by omega
   have w1:IntKind.i64.wrap ((s.size:Int)-(a:Int))=(s.size:Int)-(a:Int):=IntWalk.i64_in _ (by omega)
   have w2:IntKind.i64.wrap ((s.size:Int)-(a:Int)-2)=(s.size:Int)-(a:Int)-2:=IntWalk.i64_in _ (by omega)
   have w3:IntKind.i64.wrap ((a:Int)+2)=(a:Int)+2:=IntWalk.i64_in _ (by omega)
   have w4:IntKind.i64.wrap ((a:Int)+2+(n:Int))=(a:Int)+2+(n:Int):=IntWalk.i64_in _ (by omega)
   have g1:(0:Int)≤(a:Int)+2:=by omega
   have g2:(a:Int)+2≤(a:Int)+2+(n:Int):=by omega
   have g3:(a:Int)+2+(n:Int)≤(s.size:Int):=by omega
   have n1:((a:Int)+2).toNat=a+2:=by omega
   have n2:((a:Int)+2+(n:Int)).toNat=a+2+n:=by omega
   go_enter Tryz.func178,Tryz.ntmps178
   go_wp2_with ((go_at_call 38;refine(HG.out _).mono ?_;rintro e w1 ⟨rfl,hb1⟩))
   refine bodyPost_ret (v:=.tuple #[.string (s.extract (a+2) (a+2+n)),.int .i64 ((a+2+n:Nat):Int),true]) (by simp[results,Tryz.results178,go_sem]) rfl ⟨rfl,by assumption⟩
  ·rw[if_neg he]
   have t1:((s.size:Int)-(a:Int)-2<(n:Int)):=by omega
   have w1:IntKind.i64.wrap ((s.size:Int)-(a:Int))=(s.size:Int)-(a:Int):=IntWalk.i64_in _ (by omega)
   have w2:IntKind.i64.wrap ((s.size:Int)-(a:Int)-2)=(s.size:Int)-(a:Int)-2:=IntWalk.i64_in _ (by omega)
   go_enter Tryz.func178,Tryz.ntmps178
   go_wp2_with ((go_at_call 38;refine(HG.out _).mono ?_;rintro e w1 ⟨rfl,hb1⟩))
   refine bodyPost_ret (v:=.tuple #["",(),false]) (by simp[results,Tryz.results178,go_sem]) rfl ⟨rfl,by assumption⟩
 ·rw[if_neg (by omega)]
  have HG:=Hq (fun W=>get_no s a 2 (by omega) (by omega) (by omega) (by unfold Oct.there;simp;omega) W)
  go_enter Tryz.func178,Tryz.ntmps178
  go_wp2_with ((go_at_call 38;refine(HG.out _).mono ?_;rintro e w1 ⟨rfl,rfl⟩))
  refine bodyPost_ret (v:=.tuple #["",(),false]) (by simp[results,Tryz.results178,go_sem]) rfl ⟨rfl,Below.refl _ _⟩
abbrev rdC (s:ByteArray)(a:Nat)(bad:Bool):Array Value:=#[s,.int .i64 (a:Int),bad]
theorem rnum_tf (b:Nat)(s:ByteArray)(a k:Nat)(h1:1≤k)(h6:k≤6)(hm:s.size≤1000000000)(ha:a≤2000000000)(hin:a+k≤s.size)(w:World)(hb:w.heap[b]? =some (.cells (rdC s a false) 133 (0,0))):
 Calls Tryz.prog 116 #[.pointer (some ⟨b,0,none⟩),.int .i64 (k:Int)] w fun e w'=>e= .returned (.int .i64 (Oct.intOf (Oct.getN s.data.toList a k)))∧w'.heap[b]? =some (.cells (rdC s (a+k) false) 133 (0,0))∧KeptB w.heap.size b w w':=by
 have HG:=Hq (fun W=>get_yes s a k h1 (by omega) hin (by omega) W)
 have HB:=Hq hb
 have w1':IntKind.i64.wrap ((a:Int)+(k:Int))=(a:Int)+(k:Int):=IntWalk.i64_in _ (by omega)
 clear hb hin
 generalize Oct.intOf (Oct.getN s.data.toList a k)=n at HG ⊢
 go_enter Tryz.func116,Tryz.ntmps116
 go_upto_region 1 with fail
 refine wp_region_held_drew (S:=(fun u=>u.heap[b]? =some (.cells (rdC s a false) 133 (0,0)))) Kr ?_ (fun hHeld=>?_)
 ·first|exact hSn|exact HB.out
 refine tkW 0 (some 8) (v:=?_) rfl ?_ (tkW 1 (some 9) (v:=?_) rfl ?_ (tkW 2 (some 10) (v:=?_) rfl ?_ (tkW 3 (some 11) (v:=?_) rfl ?_ (tkW 4 (some 12) (v:=?_) rfl ?_ (tkW 5 (some 13) (v:=?_) rfl ?_ (tkW 6 (some 14) (v:=?_) rfl ?_ (tkW 7 (some 15) (v:=?_) rfl ?_ (tkW 8 (some 16) (v:=?_) rfl ?_ ?_))))))))
 iterate 9 (rotate_left;focus(intro u hSu;have hSv:=blkCell hSu;clear hSu;go_simp;(try with_reducible rfl)))
 try simp only[Act.put,pS]
 refine rdH 9 (some 17) rfl (fun K hK=>?_)
 go_simp
 refine(HG.out _).mono ?_;rintro e w1 ⟨rfl,hb1⟩;have hSn:=blkOld HB.out ((Below.refl _ w).drew.trans hb1);try go_simp
 refine hK.out _ _ ?_ (fun hHeld=>?_)
 ·first|exact hSn|exact HB.out
 clear hK K
 try simp only[Act.put,pS]
 refine tkW 10 (some 7) (v:=?_) rfl ?_ (tkW 11 (some 18) (v:=?_) rfl ?_ (tkW 12 (some 19) (v:=?_) rfl ?_ (tkW 13 (some 5) (v:=?_) rfl ?_ (tkW 14 (some 6) (v:=?_) rfl ?_ ?_))))
 iterate 5 (rotate_left;focus(intro u hSu;have hSv:=blkCell hSu;clear hSu;go_simp;(try with_reducible rfl)))
 try simp only[Act.put,pS]
 refine wpAnyH_done Kr ?_ _
 have H1:=Hq hHeld
 have HK:=Hq (show Below w.heap.size w w1 from(Below.refl _ w).drew.trans hb1)
 clear hHeld hSn hb1
 have c0:=blkCell H1.out 0
 have c1:=blkCell H1.out 1
 have c2:=blkCell H1.out 2
 have f1:=blkFrozen H1.out 1
 have f2:=blkFrozen H1.out 2
 simp at c0 c1 c2
 go_wp2_with fail
 go_ret
 refine⟨rfl,?_,?_⟩
 ·have h:=blkSet 2 (blkSet 1 H1.out (.int .i64 ((a:Int)+(k:Int)))) (.bool false)
  first|exact h|simpa using h
 ·refine⟨HK.out.os,HK.out.tape,HK.out.output,by have:=HK.out.size;simpa[World.setCell]using this,fun i hi hib=>?_⟩
  rw[Below.heap_setCell _ _ _ _ hib,Below.heap_setCell _ _ _ _ hib]
  exact HK.out.block i hi
theorem rnum_tt (b:Nat)(s:ByteArray)(a k:Nat)(h1:1≤k)(h6:k≤6)(hm:s.size≤1000000000)(ha:a≤2000000000)(hin:a+k≤s.size)(w:World)(hb:w.heap[b]? =some (.cells (rdC s a true) 133 (0,0))):
 Calls Tryz.prog 116 #[.pointer (some ⟨b,0,none⟩),.int .i64 (k:Int)] w fun e w'=>e= .returned (.int .i64 (Oct.intOf (Oct.getN s.data.toList a k)))∧w'.heap[b]? =some (.cells (rdC s (a+k) true) 133 (0,0))∧KeptB w.heap.size b w w':=by
 have HG:=Hq (fun W=>get_yes s a k h1 (by omega) hin (by omega) W)
 have HB:=Hq hb
 have w1':IntKind.i64.wrap ((a:Int)+(k:Int))=(a:Int)+(k:Int):=IntWalk.i64_in _ (by omega)
 clear hb hin
 generalize Oct.intOf (Oct.getN s.data.toList a k)=n at HG ⊢
 go_enter Tryz.func116,Tryz.ntmps116
 go_upto_region 1 with fail
 refine wp_region_held_drew (S:=(fun u=>u.heap[b]? =some (.cells (rdC s a true) 133 (0,0)))) Kr ?_ (fun hHeld=>?_)
 ·first|exact hSn|exact HB.out
 refine tkW 0 (some 8) (v:=?_) rfl ?_ (tkW 1 (some 9) (v:=?_) rfl ?_ (tkW 2 (some 10) (v:=?_) rfl ?_ (tkW 3 (some 11) (v:=?_) rfl ?_ (tkW 4 (some 12) (v:=?_) rfl ?_ (tkW 5 (some 13) (v:=?_) rfl ?_ (tkW 6 (some 14) (v:=?_) rfl ?_ (tkW 7 (some 15) (v:=?_) rfl ?_ (tkW 8 (some 16) (v:=?_) rfl ?_ ?_))))))))
 iterate 9 (rotate_left;focus(intro u hSu;have hSv:=blkCell hSu;clear hSu;go_simp;(try with_reducible rfl)))
 try simp only[Act.put,pS]
 refine rdH 9 (some 17) rfl (fun K hK=>?_)
 go_simp
 refine(HG.out _).mono ?_;rintro e w1 ⟨rfl,hb1⟩;have hSn:=blkOld HB.out ((Below.refl _ w).drew.trans hb1);try go_simp
 refine hK.out _ _ ?_ (fun hHeld=>?_)
 ·first|exact hSn|exact HB.out
 clear hK K
 try simp only[Act.put,pS]
 refine tkW 10 (some 7) (v:=?_) rfl ?_ (tkW 11 (some 18) (v:=?_) rfl ?_ (tkW 12 (some 19) (v:=?_) rfl ?_ (tkW 13 (some 5) (v:=?_) rfl ?_ (tkW 14 (some 6) (v:=?_) rfl ?_ ?_))))
 iterate 5 (rotate_left;focus(intro u hSu;have hSv:=blkCell hSu;clear hSu;go_simp;(try with_reducible rfl)))
 try simp only[Act.put,pS]
 refine wpAnyH_done Kr ?_ _
 have H1:=Hq hHeld
 have HK:=Hq (show Below w.heap.size w w1 from(Below.refl _ w).drew.trans hb1)
 clear hHeld hSn hb1
 have c0:=blkCell H1.out 0
 have c1:=blkCell H1.out 1
 have c2:=blkCell H1.out 2
 have f1:=blkFrozen H1.out 1
 have f2:=blkFrozen H1.out 2
 simp at c0 c1 c2
 go_wp2_with fail
 go_ret
 refine⟨rfl,?_,?_⟩
 ·have h:=blkSet 2 (blkSet 1 H1.out (.int .i64 ((a:Int)+(k:Int)))) (.bool true)
  first|exact h|simpa using h
 ·refine⟨HK.out.os,HK.out.tape,HK.out.output,by have:=HK.out.size;simpa[World.setCell]using this,fun i hi hib=>?_⟩
  rw[Below.heap_setCell _ _ _ _ hib,Below.heap_setCell _ _ _ _ hib]
  exact HK.out.block i hi
theorem rnum_ff (b:Nat)(s:ByteArray)(a k:Nat)(h1:1≤k)(h6:k≤6)(hm:s.size≤1000000000)(ha:a≤2000000000)(hin:¬ a+k≤s.size)(w:World)(hb:w.heap[b]? =some (.cells (rdC s a false) 133 (0,0))):
 Calls Tryz.prog 116 #[.pointer (some ⟨b,0,none⟩),.int .i64 (k:Int)] w fun e w'=>e= .returned (.int .i64 (0))∧w'.heap[b]? =some (.cells (rdC s (a+k) true) 133 (0,0))∧KeptB w.heap.size b w w':=by
 have HG:=Hq (fun W=>get_no s a k (by omega) (by omega) (by omega) (by unfold Oct.there;simp;omega) W)
 have HB:=Hq hb
 have w1':IntKind.i64.wrap ((a:Int)+(k:Int))=(a:Int)+(k:Int):=IntWalk.i64_in _ (by omega)
 clear hb hin
 go_enter Tryz.func116,Tryz.ntmps116
 go_upto_region 1 with fail
 refine wp_region_held_drew (S:=(fun u=>u.heap[b]? =some (.cells (rdC s a false) 133 (0,0)))) Kr ?_ (fun hHeld=>?_)
 ·first|exact hSn|exact HB.out
 refine tkW 0 (some 8) (v:=?_) rfl ?_ (tkW 1 (some 9) (v:=?_) rfl ?_ (tkW 2 (some 10) (v:=?_) rfl ?_ (tkW 3 (some 11) (v:=?_) rfl ?_ (tkW 4 (some 12) (v:=?_) rfl ?_ (tkW 5 (some 13) (v:=?_) rfl ?_ (tkW 6 (some 14) (v:=?_) rfl ?_ (tkW 7 (some 15) (v:=?_) rfl ?_ (tkW 8 (some 16) (v:=?_) rfl ?_ ?_))))))))
 iterate 9 (rotate_left;focus(intro u hSu;have hSv:=blkCell hSu;clear hSu;go_simp;(try with_reducible rfl)))
 try simp only[Act.put,pS]
 refine rdH 9 (some 17) rfl (fun K hK=>?_)
 go_simp
 refine(HG.out _).mono ?_;rintro e w1 ⟨rfl,hw1⟩;have hb1:Below w.drew.heap.size w.drew w1:=(by rw[← hw1];exact Below.refl _ _);have hSn:=blkOld HB.out ((Below.refl _ w).drew.trans hb1);try go_simp
 refine hK.out _ _ ?_ (fun hHeld=>?_)
 ·first|exact hSn|exact HB.out
 clear hK K
 try simp only[Act.put,pS]
 refine tkW 10 (some 7) (v:=?_) rfl ?_ (tkW 11 (some 18) (v:=?_) rfl ?_ (tkW 12 (some 19) (v:=?_) rfl ?_ (tkW 13 (some 5) (v:=?_) rfl ?_ (tkW 14 (some 6) (v:=?_) rfl ?_ ?_))))
 iterate 5 (rotate_left;focus(intro u hSu;have hSv:=blkCell hSu;clear hSu;go_simp;(try with_reducible rfl)))
 try simp only[Act.put,pS]
 refine wpAnyH_done Kr ?_ _
 have H1:=Hq hHeld
 have HK:=Hq (show Below w.heap.size w w1 from(Below.refl _ w).drew.trans hb1)
 clear hHeld hSn hb1
 have c0:=blkCell H1.out 0
 have c1:=blkCell H1.out 1
 have c2:=blkCell H1.out 2
 have f1:=blkFrozen H1.out 1
 have f2:=blkFrozen H1.out 2
 simp at c0 c1 c2
 go_wp2_with fail
 go_ret
 refine⟨rfl,?_,?_⟩
 ·have h:=blkSet 2 (blkSet 1 H1.out (.int .i64 ((a:Int)+(k:Int)))) (.bool true)
  first|exact h|simpa using h
 ·refine⟨HK.out.os,HK.out.tape,HK.out.output,by have:=HK.out.size;simpa[World.setCell]using this,fun i hi hib=>?_⟩
  rw[Below.heap_setCell _ _ _ _ hib,Below.heap_setCell _ _ _ _ hib]
  exact HK.out.block i hi
theorem rnum_ft (b:Nat)(s:ByteArray)(a k:Nat)(h1:1≤k)(h6:k≤6)(hm:s.size≤1000000000)(ha:a≤2000000000)(hin:¬ a+k≤s.size)(w:World)(hb:w.heap[b]? =some (.cells (rdC s a true) 133 (0,0))):
 Calls Tryz.prog 116 #[.pointer (some ⟨b,0,none⟩),.int .i64 (k:Int)] w fun e w'=>e= .returned (.int .i64 (0))∧w'.heap[b]? =some (.cells (rdC s (a+k) true) 133 (0,0))∧KeptB w.heap.size b w w':=by
 have HG:=Hq (fun W=>get_no s a k (by omega) (by omega) (by omega) (by unfold Oct.there;simp;omega) W)
 have HB:=Hq hb
 have w1':IntKind.i64.wrap ((a:Int)+(k:Int))=(a:Int)+(k:Int):=IntWalk.i64_in _ (by omega)
 clear hb hin
 go_enter Tryz.func116,Tryz.ntmps116
 go_upto_region 1 with fail
 refine wp_region_held_drew (S:=(fun u=>u.heap[b]? =some (.cells (rdC s a true) 133 (0,0)))) Kr ?_ (fun hHeld=>?_)
 ·first|exact hSn|exact HB.out
 refine tkW 0 (some 8) (v:=?_) rfl ?_ (tkW 1 (some 9) (v:=?_) rfl ?_ (tkW 2 (some 10) (v:=?_) rfl ?_ (tkW 3 (some 11) (v:=?_) rfl ?_ (tkW 4 (some 12) (v:=?_) rfl ?_ (tkW 5 (some 13) (v:=?_) rfl ?_ (tkW 6 (some 14) (v:=?_) rfl ?_ (tkW 7 (some 15) (v:=?_) rfl ?_ (tkW 8 (some 16) (v:=?_) rfl ?_ ?_))))))))
 iterate 9 (rotate_left;focus(intro u hSu;have hSv:=blkCell hSu;clear hSu;go_simp;(try with_reducible rfl)))
 try simp only[Act.put,pS]
 refine rdH 9 (some 17) rfl (fun K hK=>?_)
 go_simp
 refine(HG.out _).mono ?_;rintro e w1 ⟨rfl,hw1⟩;have hb1:Below w.drew.heap.size w.drew w1:=(by rw[← hw1];exact Below.refl _ _);have hSn:=blkOld HB.out ((Below.refl _ w).drew.trans hb1);try go_simp
 refine hK.out _ _ ?_ (fun hHeld=>?_)
 ·first|exact hSn|exact HB.out
 clear hK K
 try simp only[Act.put,pS]
 refine tkW 10 (some 7) (v:=?_) rfl ?_ (tkW 11 (some 18) (v:=?_) rfl ?_ (tkW 12 (some 19) (v:=?_) rfl ?_ (tkW 13 (some 5) (v:=?_) rfl ?_ (tkW 14 (some 6) (v:=?_) rfl ?_ ?_))))
 iterate 5 (rotate_left;focus(intro u hSu;have hSv:=blkCell hSu;clear hSu;go_simp;(try with_reducible rfl)))
 try simp only[Act.put,pS]
 refine wpAnyH_done Kr ?_ _
 have H1:=Hq hHeld
 have HK:=Hq (show Below w.heap.size w w1 from(Below.refl _ w).drew.trans hb1)
 clear hHeld hSn hb1
 have c0:=blkCell H1.out 0
 have c1:=blkCell H1.out 1
 have c2:=blkCell H1.out 2
 have f1:=blkFrozen H1.out 1
 have f2:=blkFrozen H1.out 2
 simp at c0 c1 c2
 go_wp2_with fail
 go_ret
 refine⟨rfl,?_,?_⟩
 ·have h:=blkSet 2 (blkSet 1 H1.out (.int .i64 ((a:Int)+(k:Int)))) (.bool true)
  first|exact h|simpa using h
 ·refine⟨HK.out.os,HK.out.tape,HK.out.output,by have:=HK.out.size;simpa[World.setCell]using this,fun i hi hib=>?_⟩
  rw[Below.heap_setCell _ _ _ _ hib,Below.heap_setCell _ _ _ _ hib]
  exact HK.out.block i hi
theorem rnum_any (b:Nat)(s:ByteArray)(x:Rc.St)(k:Nat)(h1:1≤k)(h6:k≤6)(hm:s.size≤1000000000)(ha:x.at_≤2000000000)(w:World)(hb:w.heap[b]? =some (.cells (rdC s x.at_ x.bad) 133 (0,0))):
 Calls Tryz.prog 116 #[.pointer (some ⟨b,0,none⟩),.int .i64 (k:Int)] w fun e w'=>e= .returned (.int .i64 (Rc.numM true s.data.toList x k).1)∧w'.heap[b]? =some (.cells (rdC s (Rc.numM true s.data.toList x k).2.at_ (Rc.numM true s.data.toList x k).2.bad) 133 (0,0))∧KeptB w.heap.size b w w':=by
 obtain⟨a,bad⟩:=x
 have hl:s.data.toList.length=s.size:=by simp
 by_cases hin:a+k≤s.size
 ·have hp:=getN_small s.data.toList a k
  have h2:256^k≤256^6:=Nat.pow_le_pow_right (by omega) h6
  have h3:Oct.getN s.data.toList a k<281474976710656:=Nat.lt_of_lt_of_le hp h2
  have hi:Oct.intOf (Oct.getN s.data.toList a k)=((Oct.getN s.data.toList a k:Nat):Int):=by unfold Oct.intOf;rw[if_pos (by omega)]
  have hN:Rc.numM true s.data.toList ⟨a,bad⟩ k=(((Oct.getN s.data.toList a k:Nat):Int),(⟨a+k,bad⟩:Rc.St)):=by unfold Rc.numM;rw[if_pos (by show a+k≤_;omega)]
  rw[hN,← hi]
  cases bad with
  |false=>exact rnum_tf b s a k h1 h6 hm ha hin w hb
  |true=>exact rnum_tt b s a k h1 h6 hm ha hin w hb
 ·have hN:Rc.numM true s.data.toList ⟨a,bad⟩ k=((0:Int),(⟨a+k,true⟩:Rc.St)):=by unfold Rc.numM;rw[if_neg (by show ¬ a+k≤_;omega)];rfl
  rw[hN]
  cases bad with
  |false=>exact rnum_ff b s a k h1 h6 hm ha hin w hb
  |true=>exact rnum_ft b s a k h1 h6 hm ha hin w hb
theorem extract_list (s:ByteArray)(a n:Nat):s.extract a (a+n)=⟨((s.data.toList.drop a).take n).toArray⟩:=by
 apply ByteArray.ext
 rw[ByteArray.data_extract]
 apply Array.toList_inj.1
 rw[Array.toList_extract,List.extract_eq_take_drop]
 simp
theorem rtext_t (b:Nat)(s:ByteArray)(a:Nat)(bad:Bool)(x:ByteArray)(q:Nat)(hg:∀ W,Calls Tryz.prog 178 #[s,.int .i64 (a:Int)] W fun e w'=>e= .returned (.tuple #[x,.int .i64 (q:Int),true])∧Below W.heap.size W w')(w:World)(hb:w.heap[b]? =some (.cells (rdC s a bad) 133 (0,0))):
 Calls Tryz.prog 118 #[.pointer (some ⟨b,0,none⟩)] w fun e w'=>e= .returned (.string x)∧w'.heap[b]? =some (.cells (rdC s q bad) 133 (0,0))∧KeptB w.heap.size b w w':=by
 have HG:=Hq hg
 have HB:=Hq hb
 clear hb hg
 go_enter Tryz.func118,Tryz.ntmps118
 go_upto_region 1 with fail
 refine wp_region_held_drew (S:=(fun u=>u.heap[b]? =some (.cells (rdC s a bad) 133 (0,0)))) Kr ?_ (fun hHeld=>?_)
 ·first|exact hSn|exact HB.out
 refine tkW 0 (some 7) (v:=?_) rfl ?_ (tkW 1 (some 8) (v:=?_) rfl ?_ (tkW 2 (some 9) (v:=?_) rfl ?_ (tkW 3 (some 10) (v:=?_) rfl ?_ (tkW 4 (some 11) (v:=?_) rfl ?_ (tkW 5 (some 12) (v:=?_) rfl ?_ (tkW 6 (some 13) (v:=?_) rfl ?_ (tkW 7 (some 14) (v:=?_) rfl ?_ ?_)))))))
 iterate 8 (rotate_left;focus(intro u hSu;have hSv:=blkCell hSu;clear hSu;go_simp;(try with_reducible rfl)))
 try simp only[Act.put,pS]
 refine rdH 8 (some 15) rfl (fun K hK=>?_)
 go_simp
 refine(HG.out _).mono ?_;rintro e w1 ⟨rfl,hb1⟩;have hSn:=blkOld HB.out ((Below.refl _ w).drew.trans hb1);try go_simp
 refine hK.out _ _ ?_ (fun hHeld=>?_)
 ·first|exact hSn|exact HB.out
 clear hK K
 try simp only[Act.put,pS]
 refine tkW 9 (some 6) (v:=?_) rfl ?_ (tkW 10 (some 16) (v:=?_) rfl ?_ (tkW 11 (some 17) (v:=?_) rfl ?_ (tkW 12 (some 18) (v:=?_) rfl ?_ (tkW 13 (some 3) (v:=?_) rfl ?_ (tkW 14 (some 4) (v:=?_) rfl ?_ (tkW 15 (some 5) (v:=?_) rfl ?_ ?_))))))
 iterate 7 (rotate_left;focus(intro u hSu;have hSv:=blkCell hSu;clear hSu;go_simp;(try with_reducible rfl)))
 try simp only[Act.put,pS]
 refine wpAnyH_done Kr ?_ _
 have H1:=Hq hHeld
 have HK:=Hq (show Below w.heap.size w w1 from(Below.refl _ w).drew.trans hb1)
 clear hHeld hSn hb1
 have c0:=blkCell H1.out 0
 have c1:=blkCell H1.out 1
 have c2:=blkCell H1.out 2
 have f1:=blkFrozen H1.out 1
 have f2:=blkFrozen H1.out 2
 simp at c0 c1 c2
 go_wp2_with fail
 go_ret
 refine⟨rfl,?_,?_⟩
 ·have h:=blkSet 1 H1.out (.int .i64 (q:Int))
  first|exact h|simpa using h
 ·refine⟨HK.out.os,HK.out.tape,HK.out.output,by have:=HK.out.size;simpa[World.setCell]using this,fun i hi hib=>?_⟩
  rw[Below.heap_setCell _ _ _ _ hib]
  exact HK.out.block i hi
theorem rtext_f (b:Nat)(s:ByteArray)(a:Nat)(bad:Bool)(hg:∀ W,Calls Tryz.prog 178 #[s,.int .i64 (a:Int)] W fun e w'=>e= .returned (.tuple #["",(),false])∧Below W.heap.size W w')(w:World)(hb:w.heap[b]? =some (.cells (rdC s a bad) 133 (0,0))):
 Calls Tryz.prog 118 #[.pointer (some ⟨b,0,none⟩)] w fun e w'=>e= .returned (.string ⟨#[]⟩)∧w'.heap[b]? =some (.cells (rdC s a true) 133 (0,0))∧KeptB w.heap.size b w w':=by
 have HG:=Hq hg
 have HB:=Hq hb
 clear hb hg
 go_enter Tryz.func118,Tryz.ntmps118
 go_upto_region 1 with fail
 refine wp_region_held_drew (S:=(fun u=>u.heap[b]? =some (.cells (rdC s a bad) 133 (0,0)))) Kr ?_ (fun hHeld=>?_)
 ·first|exact hSn|exact HB.out
 refine tkW 0 (some 7) (v:=?_) rfl ?_ (tkW 1 (some 8) (v:=?_) rfl ?_ (tkW 2 (some 9) (v:=?_) rfl ?_ (tkW 3 (some 10) (v:=?_) rfl ?_ (tkW 4 (some 11) (v:=?_) rfl ?_ (tkW 5 (some 12) (v:=?_) rfl ?_ (tkW 6 (some 13) (v:=?_) rfl ?_ (tkW 7 (some 14) (v:=?_) rfl ?_ ?_)))))))
 iterate 8 (rotate_left;focus(intro u hSu;have hSv:=blkCell hSu;clear hSu;go_simp;(try with_reducible rfl)))
 try simp only[Act.put,pS]
 refine rdH 8 (some 15) rfl (fun K hK=>?_)
 go_simp
 refine(HG.out _).mono ?_;rintro e w1 ⟨rfl,hb1⟩;have hSn:=blkOld HB.out ((Below.refl _ w).drew.trans hb1);try go_simp
 refine hK.out _ _ ?_ (fun hHeld=>?_)
 ·first|exact hSn|exact HB.out
 clear hK K
 try simp only[Act.put,pS]
 refine tkW 9 (some 6) (v:=?_) rfl ?_ (tkW 10 (some 16) (v:=?_) rfl ?_ (tkW 11 (some 17) (v:=?_) rfl ?_ (tkW 12 (some 18) (v:=?_) rfl ?_ (tkW 13 (some 3) (v:=?_) rfl ?_ (tkW 14 (some 4) (v:=?_) rfl ?_ (tkW 15 (some 5) (v:=?_) rfl ?_ ?_))))))
 iterate 7 (rotate_left;focus(intro u hSu;have hSv:=blkCell hSu;clear hSu;go_simp;(try with_reducible rfl)))
 try simp only[Act.put,pS]
 refine wpAnyH_done Kr ?_ _
 have H1:=Hq hHeld
 have HK:=Hq (show Below w.heap.size w w1 from(Below.refl _ w).drew.trans hb1)
 clear hHeld hSn hb1
 have c0:=blkCell H1.out 0
 have c1:=blkCell H1.out 1
 have c2:=blkCell H1.out 2
 have f1:=blkFrozen H1.out 1
 have f2:=blkFrozen H1.out 2
 simp at c0 c1 c2
 go_wp2_with fail
 go_ret
 refine⟨rfl,?_,?_⟩
 ·have h:=blkSet 2 H1.out (.bool true)
  first|exact h|simpa using h
 ·refine⟨HK.out.os,HK.out.tape,HK.out.output,by have:=HK.out.size;simpa[World.setCell]using this,fun i hi hib=>?_⟩
  rw[Below.heap_setCell _ _ _ _ hib]
  exact HK.out.block i hi
theorem rtext_any (b:Nat)(s:ByteArray)(x:Rc.St)(hm:s.size≤1000000000)(ha:x.at_≤2000000000)(w:World)(hb:w.heap[b]? =some (.cells (rdC s x.at_ x.bad) 133 (0,0))):
 Calls Tryz.prog 118 #[.pointer (some ⟨b,0,none⟩)] w fun e w'=>e= .returned (.string (Rc.textM s.data.toList x).1)∧w'.heap[b]? =some (.cells (rdC s (Rc.textM s.data.toList x).2.at_ (Rc.textM s.data.toList x).2.bad) 133 (0,0))∧KeptB w.heap.size b w w':=by
 obtain⟨a,bad⟩:=x
 have hl:s.data.toList.length=s.size:=by simp
 have HG:=fun W=>getText_any s a hm ha W
 by_cases hin:a+2+Oct.getN s.data.toList a 2≤s.size
 ·have hN:Rc.textM s.data.toList ⟨a,bad⟩=(s.extract (a+2) (a+2+Oct.getN s.data.toList a 2),(⟨a+2+Oct.getN s.data.toList a 2,bad⟩:Rc.St)):=by
   unfold Rc.textM
   rw[if_pos (by show a+2+Oct.getN s.data.toList a 2≤_;omega),extract_list]
  rw[hN]
  simp only[if_pos hin]at HG
  exact rtext_t b s a bad _ _ HG w hb
 ·have hN:Rc.textM s.data.toList ⟨a,bad⟩=(⟨#[]⟩,(⟨a,true⟩:Rc.St)):=by
   unfold Rc.textM
   rw[if_neg (by show ¬ a+2+Oct.getN s.data.toList a 2≤_;omega)]
  rw[hN]
  simp only[if_neg hin]at HG
  exact rtext_f b s a bad HG w hb
end Go.Proofs.YtilakddepaplhaaGreat
namespace Rc
end Rc
namespace Go.Proofs.YtilakddepaplhaaGreat
open Go.RowKit
abbrev zeroA:Array Value:=#[(),(),(),(),(),(),(),(),(),"","",(),(),"",(),(),"s","s"]
structure Rd (w:World) (b:Nat) (s:ByteArray) (st:Rc.St) (X:Array Value) (f:Nat) (F:Array Value) (u:World):Prop where
 rd:u.heap[b]? =some (.cells (rdC s st.at_ st.bad) 133 (0,0))
 br:u.heap[w.heap.size]? =some (.cells zeroA 55 (0,0))
 bx:u.heap[w.heap.size+1]? =some (.cells X 55 (0,0))
 bf:f=w.heap.size∨w.heap.size+1<f∧u.heap[f]? =some (.cells F 165 (0,0))
 bw:b<w.heap.size
 kept:KeptB w.heap.size b w u
theorem Rd.size {w u:World}{b f:Nat}{s:ByteArray}{st:Rc.St}{X F:Array Value}(h:Rd w b s st X f F u):w.heap.size+2≤u.heap.size:=heapLt h.bx
theorem Rd.turn {w u v:World}{b f:Nat}{s:ByteArray}{st st':Rc.St}{X F:Array Value}(h:Rd w b s st X f F u)(hr:v.heap[b]? =some (.cells (rdC s st'.at_ st'.bad) 133 (0,0)))(hk:KeptB u.heap.size b u v):Rd w b s st' X f F v:=by
 have hs:=h.size
 have hw:=h.bw
 refine⟨hr,(hk.block _ (by omega) (by omega)).trans h.br,(hk.block _ (by omega) (by omega)).trans h.bx,?_,hw,h.kept.trans ⟨hk.os,hk.tape,hk.output,hk.size,fun k hk1 hk2=>hk.block k (by omega) hk2⟩⟩
 rcases h.bf with h1|⟨h1,h2⟩
 ·exact .inl h1
 ·exact .inr ⟨h1,(hk.block _ (heapLt h2) (by omega)).trans h2⟩
theorem Rd.step {w u v:World}{b f:Nat}{s:ByteArray}{st:Rc.St}{X F:Array Value}(h:Rd w b s st X f F u)(hb:Below u.heap.size u v):Rd w b s st X f F v:=
 h.turn (blkOld h.rd hb) ⟨hb.os,hb.tape,hb.output,hb.size,fun k hk _=>hb.block k hk⟩
theorem Rd.drew {w u:World}{b f:Nat}{s:ByteArray}{st:Rc.St}{X F:Array Value}(h:Rd w b s st X f F u):Rd w b s st X f F u.drew:=h.step (Below.refl _ _).drew
theorem Rd.set {w u:World}{b f:Nat}{s:ByteArray}{st:Rc.St}{X F:Array Value}(h:Rd w b s st X f F u)(i:Nat)(v:Value):Rd w b s st (X.setIfInBounds i v) f F (u.setCell ⟨w.heap.size+1,i,none⟩ v):=by
 have hw:=h.bw
 have hh:∀ k,k≠w.heap.size+1→(u.setCell ⟨w.heap.size+1,i,none⟩ v).heap[k]? =u.heap[k]? :=fun k hk=>Below.heap_setCell _ _ _ _ hk
 refine⟨(hh _ (by omega)).trans h.rd,(hh _ (by omega)).trans h.br,blkSet i h.bx v,?_,hw,h.kept.trans ⟨rfl,rfl,rfl,by simp[World.setCell],fun k hk1 hk2=>hh k (by omega)⟩⟩
 rcases h.bf with h1|⟨h1,h2⟩
 ·exact .inl h1
 ·exact .inr ⟨h1,(hh _ (by omega)).trans h2⟩
theorem Rd.form {w u:World}{b f:Nat}{s:ByteArray}{st:Rc.St}{X F:Array Value}(h:Rd w b s st X f F u)(hf:w.heap.size<f):u.heap[f]? =some (.cells F 165 (0,0)):=by
 rcases h.bf with h1|⟨h1,h2⟩
 ·omega
 ·exact h2
theorem Rd.num {w u:World}{b f:Nat}{s:ByteArray}{st st':Rc.St}{X F:Array Value}{n:Int}(h:Rd w b s st X f F u)(k:Nat)(h1:1≤k)(h6:k≤6)(hn:Rc.numM true s.data.toList st k=(n,st'))(hm:s.size≤1000000)(ha:st.at_≤2000000000):
 Calls Tryz.prog 116 #[.pointer (some ⟨b,0,none⟩),.int .i64 (k:Int)] u fun e v=>e= .returned (.int .i64 n)∧Rd w b s st' X f F v:=by
 refine(rnum_any b s st k h1 h6 (by omega) ha u h.rd).mono ?_
 rintro e v ⟨rfl,h2,h3⟩
 rw[hn]at h2 ⊢
 exact⟨rfl,h.turn h2 h3⟩
structure RecN (n:Nat) (w:World) (r:Rc.Rec) (A:Option Addr) (c:Nat) (B:Option Addr) (d:Nat):Prop where
 rr:RecR w r A c B d
 ta:NewT n w 92 A
 tb:NewT n w 94 B
theorem RecN.mono {n m:Nat}{w:World}{r:Rc.Rec}{A B:Option Addr}{c d:Nat}(h:RecN n w r A c B d)(hm:m≤n):RecN m w r A c B d:=⟨h.rr,h.ta.mono hm,h.tb.mono hm⟩
theorem RecN.below {n:Nat}{w w':World}{r:Rc.Rec}{A B:Option Addr}{c d:Nat}(h:RecN n w r A c B d)(hb:Below w.heap.size w w'):RecN n w' r A c B d:=⟨h.rr.below hb,h.ta.below hb,h.tb.below hb⟩
theorem RecN.turn {n:Nat}{w v:World}{r:Rc.Rec}{A B:Option Addr}{c d:Nat}(h:RecN n w r A c B d)(hs:w.heap.size≤v.heap.size)(hk:∀ k cs T fr,n≤k→w.heap[k]? =some (.cells cs T fr)→T=92∨T=94→v.heap[k]? =w.heap[k]?):RecN n v r A c B d:=by
 refine⟨⟨fun h0=>?_,fun h0=>?_,h.rr.small⟩,fun ad e=>?_,fun ad e=>?_⟩
 ·obtain⟨g,off,e1,e2,e3,e4⟩:=h.rr.txns h0
  obtain⟨h1,cs,fr,h2⟩:=h.ta _ e1
  refine⟨g,off,e1,e2,Nat.lt_of_lt_of_le e3 hs,fun j u hj=>?_⟩
  have:=e4 j u hj
  unfold World.cell? at this ⊢
  rw[hk _ _ _ _ h1 h2 (.inl rfl)]
  exact this
 ·obtain⟨g,off,e1,e2,e3,e4⟩:=h.rr.dirty h0
  obtain⟨h1,cs,fr,h2⟩:=h.tb _ e1
  refine⟨g,off,e1,e2,Nat.lt_of_lt_of_le e3 hs,fun j u hj=>?_⟩
  have:=e4 j u hj
  unfold World.cell? at this ⊢
  rw[hk _ _ _ _ h1 h2 (.inr rfl)]
  exact this
 ·obtain⟨h1,cs,fr,h2⟩:=h.ta ad e
  exact⟨h1,cs,fr,(hk _ _ _ _ h1 h2 (.inl rfl)).trans h2⟩
 ·obtain⟨h1,cs,fr,h2⟩:=h.tb ad e
  exact⟨h1,cs,fr,(hk _ _ _ _ h1 h2 (.inr rfl)).trans h2⟩
theorem RecN.row {n:Nat}{w:World}{r:Rc.Rec}{A B:Option Addr}{c d:Nat}(h:RecN n w r A c B d)(b:Nat)(cs:Array Value)(hb:b<n):RecN n (w.setRow b cs) r A c B d:=
 h.turn (by show _≤(w.heap.modify _ _).size;simp) (fun k _ _ _ hk _ _=>heap_setRow_other _ _ _ _ (by omega))
theorem RecN.set {n:Nat}{w:World}{r:Rc.Rec}{A B:Option Addr}{c d:Nat}(h:RecN n w r A c B d)(b j:Nat)(v:Value)(hb:b<n):RecN n (w.setCell ⟨b,j,none⟩ v) r A c B d:=
 h.turn (by simp[World.setCell]) (fun k _ _ _ hk _ _=>Below.heap_setCell _ _ _ _ (by show k≠b;omega))
theorem RecN.other {n:Nat}{w:World}{r:Rc.Rec}{A B:Option Addr}{c d:Nat}(h:RecN n w r A c B d){b:Nat}{cur:Array Value}{T:TypeId}{fr:Nat×Nat}(hb:w.heap[b]? =some (.cells cur T fr))(h1:T≠92)(h2:T≠94)(cs:Array Value):RecN n (w.setRow b cs) r A c B d:=
 h.turn (by show _≤(w.heap.modify _ _).size;simp) (fun k cs' T' fr' _ hk hT=>heap_setRow_other _ _ _ _ (fun e=>by
  subst e
  rw[hb]at hk
  injection hk with hk
  injection hk with _ hk
  rcases hT with h3|h3
  ·exact h1 (hk.trans h3)
  ·exact h2 (hk.trans h3)))
theorem RecN.grown {n m size B0:Nat}{w w':World}{r:Rc.Rec}{A B:Option Addr}{c d:Nat}{e:TypeId}{v:Value}{xs:List Value}(h:RecN n w r A c B d)(ho:w.ownsRow B0 e size v m xs)(h1:e≠92)(h2:e≠94)(hg:w.grownBy w' v.ownBlock):RecN n w' r A c B d:=
 h.turn hg.size (fun k cs' T' fr' _ hk hT=>hg.block k (heapLt hk) (fun e1=>ownApart ho hk (fun e2=>by
  rcases hT with h3|h3
  ·exact h1 (e2.trans h3)
  ·exact h2 (e2.trans h3)) e1.symm))
theorem Rd.text {w u:World}{b f:Nat}{s:ByteArray}{st st':Rc.St}{X F:Array Value}{t:ByteArray}(h:Rd w b s st X f F u)(hn:Rc.textM s.data.toList st=(t,st'))(hm:s.size≤1000000)(ha:st.at_≤2000000000):
 Calls Tryz.prog 118 #[.pointer (some ⟨b,0,none⟩)] u fun e v=>e= .returned (.string t)∧Rd w b s st' X f F v:=by
 refine(rtext_any b s st (by omega) ha u h.rd).mono ?_
 rintro e v ⟨rfl,h2,h3⟩
 rw[hn]at h2 ⊢
 exact⟨rfl,h.turn h2 h3⟩
theorem heap_setRow_ne (w:World)(b:Nat)(cs:Array Value)(k:Nat)(h:k≠b):(w.setRow b cs).heap[k]? =w.heap[k]? :=by
 show(w.heap.modify b _)[k]? =_
 rw[Array.getElem?_modify,if_neg (fun e=>h e.symm)]
theorem Rd.done {w u:World}{b f:Nat}{s:ByteArray}{st:Rc.St}{X F:Array Value}(h:Rd w b s st X f F u):(u.setRow w.heap.size X).heap[w.heap.size]? =some (.cells X 55 (0,0))∧KeptB w.heap.size b w (u.setRow w.heap.size X):=
 ⟨setRow_heap _ _ _ _ _ _ h.br,h.kept.trans ⟨rfl,rfl,rfl,by show _≤(u.heap.modify _ _).size;simp,fun k hk _=>heap_setRow_ne _ _ _ _ (by omega)⟩⟩
end Go.Proofs.YtilakddepaplhaaGreat
namespace Rc
structure Rest {α:Type} (one:St→α×St) (len:Nat) (TS:List α) (sT:St) (ts:List α) (m:Nat) (st:St):Prop where
 list:ts++(manyM one m st).1=TS
 state:(manyM one m st).2=sT
 inn:st.bad=false→st.at_≤len
 lim:st.at_≤len+500
theorem many_bad {α:Type}{one:St→α×St}{m:Nat}{st:St}(hb:st.bad=true):manyM one m st=([],st):=by
 cases m with
 |zero=>rfl
 |succ m=>unfold manyM;rw[if_pos hb]
theorem Rest.bad {α:Type}{one:St→α×St}{len m:Nat}{TS ts:List α}{sT st:St}(h:Rest one len TS sT ts m st)(hb:st.bad=true):ts=TS∧st=sT:=by
 have h1:=h.list
 have h2:=h.state
 rw[many_bad hb]at h1 h2
 exact⟨by simpa using h1,h2⟩
theorem Rest.next {α:Type}{one:St→α×St}{len m:Nat}{TS ts:List α}{sT st st':St}{x:α}(h:Rest one len TS sT ts m st)(h0:0<m)(hb:st.bad=false)(hx:one st=(x,st'))(h1:st'.bad=false→st'.at_≤len)(h2:st'.at_≤len+100):
 Rest one len TS sT (ts++[x]) (m-1) st':=by
 obtain⟨m,rfl⟩:∃ k,m=k+1:=⟨m-1,by omega⟩
 have e:manyM one (m+1) st=(x::(manyM one m st').1,(manyM one m st').2):=by
  conv=>lhs;unfold manyM
  rw[if_neg (by rw[hb];simp),hx]
 have h3:=h.list
 have h4:=h.state
 rw[e]at h3 h4
 exact⟨by rw[Nat.add_sub_cancel,List.append_assoc];exact h3,h4,h1,by omega⟩
end Rc
namespace Go.Proofs.YtilakddepaplhaaGreat
open Go.RowKit
theorem Rd.under {w u v:World}{b f:Nat}{s:ByteArray}{st:Rc.St}{X F:Array Value}(h:Rd w b s st X f F u)(hf:w.heap.size+1<f)(hb:Below (f+1) u v):Rd w b s st X f F v:=by
 have hw:=h.bw
 refine⟨(hb.block _ (by omega)).trans h.rd,(hb.block _ (by omega)).trans h.br,(hb.block _ (by omega)).trans h.bx,.inr ⟨hf,(hb.block _ (by omega)).trans (h.form (by omega))⟩,hw,h.kept.trans ⟨hb.os,hb.tape,hb.output,hb.size,fun k hk _=>hb.block k (by omega)⟩⟩
theorem info_txn:(Tryz.prog.info? 92).map (fun i=>(i.zero,i.size,i.bytes))=some (some (.agg #[(),(),(),false]),4,32):=by kernel_rfl
theorem info_dirty:(Tryz.prog.info? 94).map (fun i=>(i.zero,i.size,i.bytes))=some (some (.agg #[(),()]),2,16):=by kernel_rfl
end Go.Proofs.YtilakddepaplhaaGreat
namespace Lg
end Lg
namespace Go.Proofs.YtilakddepaplhaaGreat
open Go.RowKit
end Go.Proofs.YtilakddepaplhaaGreat
namespace Lg
structure Acc (d:Dk) (f:Int) (N k:Nat) (l:List UInt8):Prop where
 le:k≤N
 eq:secsD d f N=match secsD d (f+(k:Int)) (N-k)with
  | .ok r=>.ok (l++r)
  | .error e=>.error e
theorem Acc.zero (d:Dk)(f:Int)(N:Nat):Acc d f N 0 []:=⟨Nat.zero_le _,by
 simp only[Nat.sub_zero,List.nil_append]
 rw[show f+((0:Nat):Int)=f by omega]
 cases secsD d f N<;>rfl⟩
theorem Acc.next {d:Dk}{f:Int}{N k:Nat}{l:List UInt8}(h:Acc d f N k l)(hk:k<N)(h0:(readD d (f+(k:Int))).2=0):Acc d f N (k+1) (l++(readD d (f+(k:Int))).1.data.toList):=by
 refine⟨hk,?_⟩
 rw[h.eq,show N-k=(N-(k+1))+1 by omega]
 rw[show f+((k+1:Nat):Int)=f+(k:Int)+1 by omega]
 conv=>lhs;unfold secsD
 rw[if_pos h0]
 cases secsD d (f+(k:Int)+1) (N-(k+1))with
 |ok r=>simp only[List.append_assoc]
 |error e=>rfl
theorem Acc.fault {d:Dk}{f:Int}{N k:Nat}{l:List UInt8}(h:Acc d f N k l)(hk:k<N)(h0:(readD d (f+(k:Int))).2≠0):secsD d f N= .error (readD d (f+(k:Int))).2:=by
 rw[h.eq,show N-k=(N-(k+1))+1 by omega]
 conv=>lhs;unfold secsD
 rw[if_neg h0]
theorem Acc.done {d:Dk}{f:Int}{N:Nat}{l:List UInt8}(h:Acc d f N N l):secsD d f N= .ok l:=by
 rw[h.eq,Nat.sub_self]
 unfold secsD
 simp
end Lg
namespace Go.Proofs.YtilakddepaplhaaGreat
open Go.RowKit
theorem putW (n:Nat)(h:n<18446744073709551616)(size:Nat)(h8:size≤8):(Oct.putB (n:Int) size).data.toList=Oct.putL n size:=by
 rw[Oct.putB_list _ _ h8]
 congr 1
 unfold Oct.word
 omega
theorem seal_any (s:ByteArray)(hs:s.size≤1000000)(w:World):
 Calls Tryz.prog 89 #[s] w fun e w'=>∃ x:ByteArray,e= .returned (.string x)∧x.data.toList=Oct.putL (Oct.sumN s.data.toList) 4++s.data.toList∧Below w.heap.size w w':=by
 have HS:=Hq (fun W=>sum_any s (by omega) W)
 have hlt:Oct.sumN s.data.toList<18446744073709551616:=by have:=Oct.sumN_lt s.data.toList;omega
 have hfin0:(Oct.putB ((Oct.sumN s.data.toList:Nat):Int) 4).data.toList=Oct.putL (Oct.sumN s.data.toList) 4:=putW _ hlt 4 (by omega)
 generalize Oct.sumN s.data.toList=n at HS hfin0 ⊢
 have HP:=Hq (fun W=>put_any (n:Int) 4 (by omega) (by omega) W)
 have hsz:(Oct.putB (n:Int) 4).size=4:=Oct.putB_size _ 4 (by omega)
 have hsum:(Oct.putB (n:Int) 4).size+s.size≤281474976710656:=by omega
 have hfin:(Oct.putB (n:Int) 4++s).data.toList=Oct.putL n 4++s.data.toList:=by
  rw[ByteArray.data_append,Array.toList_append,hfin0]
 clear hlt hfin0
 generalize Oct.putB (n:Int) 4=x at HP hsz hsum hfin
 go_enter Tryz.func89,Tryz.ntmps89
 go_wp2_with (first|(go_at_call 77;refine(HS.out _).mono ?_;rintro e w1 ⟨rfl,rfl⟩)|(go_at_call 90;refine(HP.out _).mono ?_;rintro e w2 ⟨rfl,hb2⟩))
 go_ret
 exact⟨_,rfl,hfin,hb2⟩
def PutOut (r:Rc.Rec)(w:World)(e:Ending)(w':World):Prop:=
 (∃ x:ByteArray,Rc.Right r∧e= .returned (.tuple #[x,()])∧x.data.toList=Lg.putR r∨¬ Rc.Right r∧e= .returned (.tuple #["",.int .i64 1]))∧Below w.heap.size w w'
theorem recput_any (r:Rc.Rec)(A D:Option Addr)(c d:Nat)(w:World)(hr:RecR w r A c D d):
 Calls Tryz.prog 67 #[recV r (.slice A r.txns.length c) (.slice D r.dirty.length d)] w (PutOut r w):=by
 have HR:=Hq (fun W (h:Below w.heap.size w W)=>cright_rec r A D c d W (hr.below h))
 have HA:=Hq (heap_alloc_new w (.cells (recA r (.slice A r.txns.length c) (.slice D r.dirty.length d)) 55))
 cases hb:Rc.rightB r with
 |false=>
  rw[hb]at HR
  have hno:¬ Rc.Right r:=fun h=>by rw[Rc.rightB_yes h]at hb;cases hb
  have HO:=Hq (fun w' (h:Below w.heap.size w w')=>show PutOut r w (.returned (.tuple #["",.int .i64 1])) w' from⟨⟨⟨#[]⟩,.inr ⟨hno,rfl⟩⟩,h⟩)
  clear hno hb hr
  generalize PutOut r w=Q at HO ⊢
  obtain⟨lsn,prev,txn,kind,page,next,nu,⟨ok,os,oo,on⟩,how,root,⟨ek,ep,es⟩,ts,ds⟩:=r
  dsimp only[recV,recA]at HR HA ⊢
  go_enter Tryz.func67,Tryz.ntmps67
  go_wp2_with (first
   |(with_reducible refine listLoad Kr 55 (.tmp 1) rfl w.heap.size rfl (rcA lsn prev txn kind page next nu ok os oo on how root ek ep es (.slice A ts.length c) (.slice D ds.length d)) _ HA.out _ Tryz.underlying55 Kr Kr ?_)
   |(go_at_call 84;(with_reducible refine(HR.out _ (allocB _ _)).mono ?_);rintro e w1 ⟨rfl,hb1⟩))
  exact HO.out _ (joinB (allocB _ _) hb1)
 |true=>
  rw[hb]at HR
  have hx:Rc.Right r:=Rc.rightB_iff.1 hb
  have HB:=Hq (fun W (h:Below w.heap.size w W)=>body_any r hx A D c d W (hr.below h))
  obtain⟨y,hy⟩:∃ y:ByteArray,y=⟨(Rc.bodyB r).toArray⟩:=⟨_,rfl⟩
  rw[← hy]at HB
  have hyl:y.data.toList=Rc.bodyB r:=by rw[hy]
  have hlen:=Rc.bodyB_len hx
  have hys:y.size=(Rc.bodyB r).length:=by rw[← hyl];simp
  have hsz:y.size≤1000000:=by omega
  have HS:=Hq (fun W=>seal_any y hsz W)
  have HP:=Hq (fun W=>put_any (y.size:Int) 4 (by omega) (by omega) W)
  have hpl:(Oct.putB (y.size:Int) 4).data.toList=Oct.putL y.size 4:=putW _ (by omega) 4 (by omega)
  have hpz:(Oct.putB (y.size:Int) 4).size=4:=Oct.putB_size _ 4 (by omega)
  generalize Oct.putB (y.size:Int) 4=z at HP hpl hpz
  have HO:=Hq (fun w' (x:ByteArray) (hxx:x.data.toList=Oct.putL (Oct.sumN y.data.toList) 4++y.data.toList) (h:Below w.heap.size w w')=>show PutOut r w (.returned (.tuple #[.string (z++x),()])) w' from⟨⟨z++x,.inl ⟨hx,rfl,by rw[ByteArray.data_append,Array.toList_append,hpl,hxx,hyl,hys];rfl⟩⟩,h⟩)
  have HX:=Hq (fun(x:ByteArray) (hxx:x.data.toList=Oct.putL (Oct.sumN y.data.toList) 4++y.data.toList)=>show x.size≤1000004 from by
   have e:x.size=x.data.toList.length:=by simp
   rw[e,hxx,List.length_append,Oct.putL_length]
   have e2:y.data.toList.length=y.size:=by simp
   omega)
  clear hx hb hr hy hyl hlen hys hpl
  generalize PutOut r w=Q at HO ⊢
  obtain⟨lsn,prev,txn,kind,page,next,nu,⟨ok,os,oo,on⟩,how,root,⟨ek,ep,es⟩,ts,ds⟩:=r
  dsimp only[recV,recA]at HR HA HB ⊢
  go_enter Tryz.func67,Tryz.ntmps67
  go_upto_region 3 with(first
   |(with_reducible refine listLoad Kr 55 (.tmp 1) rfl w.heap.size rfl (rcA lsn prev txn kind page next nu ok os oo on how root ek ep es (.slice A ts.length c) (.slice D ds.length d)) _ HA.out _ Tryz.underlying55 Kr Kr ?_)
   |(go_at_call 84;(with_reducible refine(HR.out _ (allocB _ _)).mono ?_);rintro e w1 ⟨rfl,hb1⟩))
  have HA1:=Hq (blkOld HA.out hb1)
  have HB1:=Hq (joinB (allocB w _) hb1)
  clear hb1 HA HR
  go_upto_region 4 with(first
   |(with_reducible refine listLoad Kr 55 (.tmp 1) rfl w.heap.size rfl (rcA lsn prev txn kind page next nu ok os oo on how root ek ep es (.slice A ts.length c) (.slice D ds.length d)) _ HA1.out _ Tryz.underlying55 Kr Kr ?_)
   |(go_at_call 85;(with_reducible refine(HB.out _ HB1.out).mono ?_);rintro e w2 ⟨rfl,hb2⟩))
  have HB2:=Hq (joinB HB1.out hb2)
  clear hb2 HB1 HA1 HB
  go_wp2_with (first|(go_at_call 90;refine(HP.out _).mono ?_;rintro e w3 ⟨rfl,hb3⟩)|(go_at_call 89;refine(HS.out _).mono ?_;rintro e w4 ⟨x,rfl,hxx,hb4⟩;have hxs:=HX.out x hxx;have hsum:z.size+x.size≤281474976710656:=(by omega)))
  exact HO.out _ x hxx (joinB (joinB HB2.out hb3) hb4)
end Go.Proofs.YtilakddepaplhaaGreat
