import Derived.Test.YtilakddepaplhaaGreatHb00
import Derived.Test.YtilakddepaplhaaGreatHb04
import Derived.Test.YtilakddepaplhaaGreatHb01
import Derived.BigRegion
import Derived.Test.YtilakddepaplhaaGreatHb05
set_option maxRecDepth 100000
set_option maxHeartbeats 16000000
set_option linter.unusedSimpArgs false
namespace Rc
theorem t_len (s:ByteArray):(t s).length=2+s.size:=by
 unfold t;rw[List.length_append,p_length];simp
theorem opB_len {o:Op}(h:opR o):(opB o).length≤1031:=by
 obtain⟨_,_,_,h4,h5⟩:=h
 unfold opB
 simp only[List.length_append,p_length,t_len]
 omega
theorem flat_len {α:Type}(f:α→List UInt8)(k:Nat)(hf:∀ x,(f x).length=k):∀ l:List α,(l.flatMap f).length=l.length*k:=by
 intro l
 induction l with
 |nil=>simp
 |cons x l ih=>rw[List.flatMap_cons,List.length_append,hf,ih,List.length_cons,Nat.add_mul];omega
theorem txnB_len (x:TxnAt):(txnB x).length=19:=by
 unfold txnB;simp only[List.length_append,p_length]
theorem dirtyB_len (x:DirtyAt):(dirtyB x).length=9:=by
 unfold dirtyB;simp only[List.length_append,p_length]
theorem headB_len (r:Rec):(headB r).length=19:=by
 unfold headB;simp only[List.length_append,p_length]
theorem listsB_len {r:Rec}(h:listsR r):(listsB r).length≤37010:=by
 obtain⟨h1,h2,_⟩:=h
 unfold listsB
 simp only[List.length_append,p_length,flat_len txnB 19 txnB_len,flat_len dirtyB 9 dirtyB_len]
 omega
theorem bodyB_len {r:Rec}(h:Right r):19≤(bodyB r).length∧(bodyB r).length≤40000:=by
 unfold bodyB
 rw[List.length_append,headB_len]
 refine⟨by omega,?_⟩
 cases h with
 |small kind lsn prev txn hk h1 h2 h3=>
  have hk2:restB (bare kind lsn prev txn)=[]:=by
   unfold restB bare
   simp only
   rw[if_neg (by omega),if_neg (by omega),if_neg (by omega),if_neg (by omega),if_neg (by omega)]
  rw[hk2];simp
 |change lsn prev txn page op how root e h1 h2 h3 h4 h5 h6=>
  rw[restB_2 rfl]
  have ho:=opB_len h5
  have ht:(treeB ⟨lsn,prev,txn,2,page,0,0,op,how,root,e,[],[]⟩).length≤200:=by
   unfold treeB
   rcases h6 with⟨h7,_⟩|⟨h7,h8,h9,h10,h11⟩
   ·simp only at h7;subst h7;simp
   ·simp only at h7 h11
    rw[if_neg (show ¬ how=1 by omega)]
    simp only[List.length_append,p_length,t_len]
    omega
  simp only[List.length_append,p_length]
  omega
 |clr lsn prev txn page op next h1 h2 h3 h4 h5 h6=>
  rw[restB_3 rfl]
  have ho:=opB_len h5
  simp only[List.length_append,p_length]
  omega
 |nest lsn prev txn next h1 h2 h3 h6=>
  rw[restB_4 rfl]
  simp only[p_length]
  omega
 |image lsn prev txn page op h1 h2 h3 h4 h5=>
  rw[restB_8 rfl]
  have ho:=opB_len h5
  simp only[List.length_append,p_length]
  omega
 |check lsn prev txn n ts ds h1 h2 h3 h4 h5=>
  rw[restB_9 rfl]
  have:=listsB_len h5
  omega
theorem not_right_zero {r:Rec}(h:r.kind=0):¬ Right r:=by
 intro hr
 cases hr with
 |small kind lsn prev txn hk h1 h2 h3=>have:kind=0:=h;omega
 |change lsn prev txn page op how root e h1 h2 h3 h4 h5 h6=>exact absurd (show(2:Int)=0 from h) (by omega)
 |clr lsn prev txn page op next h1 h2 h3 h4 h5 h6=>exact absurd (show(3:Int)=0 from h) (by omega)
 |nest lsn prev txn next h1 h2 h3 h6=>exact absurd (show(4:Int)=0 from h) (by omega)
 |image lsn prev txn page op h1 h2 h3 h4 h5=>exact absurd (show(8:Int)=0 from h) (by omega)
 |check lsn prev txn n ts ds h1 h2 h3 h4 h5=>exact absurd (show(9:Int)=0 from h) (by omega)
end Rc
namespace Lg
open Rc
def putR (r:Rec):List UInt8:=Oct.putL (bodyB r).length 4++(Oct.putL (Oct.sumN (bodyB r)) 4++bodyB r)
theorem putR_len (r:Rec):(putR r).length=8+(bodyB r).length:=by
 unfold putR;simp only[List.length_append,Oct.putL_length];omega
def bodyAt (s:List UInt8)(a:Nat):List UInt8:=(s.drop (a+8)).take (Oct.getN s a 4)
def Is (s:List UInt8)(a:Nat):Prop:=
 a+8+Oct.getN s a 4≤s.length∧Oct.getN s (a+4) 4=Oct.sumN (bodyAt s a)∧Right (readM true (bodyAt s a))∧bodyB (readM true (bodyAt s a))=bodyAt s a
open Classical in
noncomputable def getO (s:List UInt8) (a:Nat):Option (Rec×Nat):=if Is s a then some (readM true (bodyAt s a),a+8+Oct.getN s a 4)else none
theorem getO_yes {s:List UInt8}{a:Nat}(h:Is s a):getO s a=some (readM true (bodyAt s a),a+8+Oct.getN s a 4):=if_pos h
theorem getO_no {s:List UInt8}{a:Nat}(h:¬ Is s a):getO s a=none:=if_neg h
theorem drop_app (x y:List UInt8)(k:Nat):(x++y).drop (x.length+k)=y.drop k:=by
 rw[← List.drop_drop,List.drop_left]
theorem getN_app2 (x y:List UInt8)(k n:Nat):Oct.getN (x++y) (x.length+k) n=Oct.getN y k n:=by
 unfold Oct.getN;rw[drop_app]
theorem getN_put (u k:Nat)(y:List UInt8)(h:u<256^k):Oct.getN (Oct.putL u k++y) 0 k=u:=by
 unfold Oct.getN
 rw[List.drop_zero,List.take_left' (Oct.putL_length u k),Oct.getL_putL,Nat.mod_eq_of_lt h]
theorem is_put (x y:List UInt8){r:Rec}(h:Right r):Is (x++(putR r++y)) x.length∧bodyAt (x++(putR r++y)) x.length=bodyB r∧Oct.getN (x++(putR r++y)) x.length 4=(bodyB r).length:=by
 have hlen:=bodyB_len h
 have hg:Oct.getN (x++(putR r++y)) x.length 4=(bodyB r).length:=by
  have h1:=getN_app2 x (putR r++y) 0 4
  rw[Nat.add_zero]at h1
  rw[h1]
  unfold putR
  rw[List.append_assoc]
  exact getN_put _ _ _ (by show _<4294967296;omega)
 have hs:Oct.getN (x++(putR r++y)) (x.length+4) 4=Oct.sumN (bodyB r):=by
  rw[getN_app2]
  unfold putR
  have h2:=getN_app2 (Oct.putL (bodyB r).length 4) (Oct.putL (Oct.sumN (bodyB r)) 4++(bodyB r++y)) 0 4
  rw[Oct.putL_length]at h2
  simp only[List.append_assoc]
  rw[h2]
  exact getN_put _ _ _ (Oct.sumN_lt _)
 have hb:bodyAt (x++(putR r++y)) x.length=bodyB r:=by
  unfold bodyAt
  rw[hg,drop_app]
  unfold putR
  have e:(Oct.putL (bodyB r).length 4++(Oct.putL (Oct.sumN (bodyB r)) 4++bodyB r)++y)=(Oct.putL (bodyB r).length 4++Oct.putL (Oct.sumN (bodyB r)) 4)++(bodyB r++y):=by simp[List.append_assoc]
  rw[e,List.drop_left' (by rw[List.length_append,Oct.putL_length,Oct.putL_length]),List.take_left]
 refine⟨⟨?_,?_,?_,?_⟩,hb,hg⟩
 ·rw[hg];simp only[List.length_append,putR_len];omega
 ·rw[hs,hb]
 ·rw[hb,read_body true h];exact h
 ·rw[hb,read_body true h]
theorem getO_put (x y:List UInt8){r:Rec}(h:Right r):getO (x++(putR r++y)) x.length=some (r,x.length+(putR r).length):=by
 obtain⟨h1,h2,h3⟩:=is_put x y h
 rw[getO_yes h1,h2,h3,read_body true h,putR_len,Nat.add_assoc]
theorem take_join (s:List UInt8)(a n:Nat):(s.drop a).take n++s.drop (a+n)=s.drop a:=by
 rw[← List.drop_drop,List.take_append_drop]
theorem is_bytes {s:List UInt8}{a:Nat}(h:Is s a):s=s.take a++(putR (readM true (bodyAt s a))++s.drop (a+8+Oct.getN s a 4)):=by
 obtain⟨h1,h2,h3,h4⟩:=h
 have hbl:(bodyAt s a).length=Oct.getN s a 4:=by unfold bodyAt;rw[List.length_take,List.length_drop];omega
 have e1:Oct.putL (bodyAt s a).length 4=(s.drop a).take 4:=by
  rw[hbl];unfold Oct.getN
  exact Oct.putL_getL 4 _ (by rw[List.length_take,List.length_drop];omega)
 have e2:Oct.putL (Oct.sumN (bodyAt s a)) 4=(s.drop (a+4)).take 4:=by
  rw[← h2];unfold Oct.getN
  exact Oct.putL_getL 4 _ (by rw[List.length_take,List.length_drop];omega)
 unfold putR
 rw[h4,e1,e2]
 have e3:bodyAt s a++s.drop (a+8+Oct.getN s a 4)=s.drop (a+8):=take_join s (a+8) _
 have e4:(s.drop (a+4)).take 4++s.drop (a+8)=s.drop (a+4):=take_join s (a+4) 4
 have e5:(s.drop a).take 4++s.drop (a+4)=s.drop a:=take_join s a 4
 rw[List.append_assoc,List.append_assoc,e3,e4,e5,List.take_append_drop]
theorem is_zero {s:List UInt8}{a:Nat}(h:Oct.getN s a 4=0):¬ Is s a:=by
 rintro⟨_,_,h3,_⟩
 have hb:bodyAt s a=[]:=by unfold bodyAt;rw[h,List.take_zero]
 rw[hb]at h3
 exact not_right_zero (by rfl) h3
noncomputable def openL (s:List UInt8):Nat→Nat→List Rec×Nat
 |0,a=>([],a)
 |f+1,a=>match getO s a with
  |none=>([],a)
  |some (r,b)=>if r.lsn=(a:Int)+1 then(r::(openL s f b).1,(openL s f b).2)else([],a)
def Row (a:Nat):List Rec→Prop
 |[]=>True
 |r::l=>Right r∧r.lsn=(a:Int)+1∧Row (a+(putR r).length) l
def bytes (l:List Rec):List UInt8:=l.flatMap putR
theorem bytes_cons (r:Rec)(l:List Rec):bytes (r::l)=putR r++bytes l:=rfl
theorem bytes_append (l m:List Rec):bytes (l++m)=bytes l++bytes m:=List.flatMap_append
theorem row_append {a:Nat}{l m:List Rec}:Row a (l++m)↔Row a l∧Row (a+(bytes l).length) m:=by
 induction l generalizing a with
 |nil=>simp[Row,bytes]
 |cons r l ih=>
  show(Right r∧r.lsn=(a:Int)+1∧Row (a+(putR r).length) (l++m))↔(Right r∧r.lsn=(a:Int)+1∧Row (a+(putR r).length) l)∧_
  rw[ih,bytes_cons,List.length_append,Nat.add_assoc]
  constructor
  ·rintro⟨h1,h2,h3,h4⟩;exact⟨⟨h1,h2,h3⟩,h4⟩
  ·rintro⟨⟨h1,h2,h3⟩,h4⟩;exact⟨h1,h2,h3,h4⟩
theorem openL_row (l:List Rec):∀ (x y:List UInt8) (f:Nat),Row x.length l→l.length<f→(∀ r b,getO (x++(bytes l++y)) (x.length+(bytes l).length)=some (r,b)→r.lsn≠((x.length+(bytes l).length:Nat):Int)+1)→
 openL (x++(bytes l++y)) f x.length=(l,x.length+(bytes l).length):=by
 induction l with
 |nil=>
  intro x y f hrow hf hend
  obtain⟨f,rfl⟩:∃ g,f=g+1:=⟨f-1,by simp at hf;omega⟩
  have hb0:(bytes []).length=0:=rfl
  rw[hb0,Nat.add_zero]at hend ⊢
  unfold openL
  cases hg:getO (x++(bytes []++y)) x.length with
  |none=>rfl
  |some v=>
   obtain⟨r,b⟩:=v
   simp only
   rw[if_neg (hend r b hg)]
   rfl
 |cons r l ih=>
  intro x y f hrow hf hend
  obtain⟨h1,h2,h3⟩:=hrow
  obtain⟨f,rfl⟩:∃ g,f=g+1:=⟨f-1,by simp at hf;omega⟩
  have e:x++(bytes (r::l)++y)=(x++putR r)++(bytes l++y):=by rw[bytes_cons];simp[List.append_assoc]
  have el:x.length+(bytes (r::l)).length=(x++putR r).length+(bytes l).length:=by rw[bytes_cons,List.length_append,List.length_append];omega
  have hg:=getO_put x (bytes l++y) h1
  rw[e,el]at hend
  have:=ih (x++putR r) y f (by rw[List.length_append];exact h3) (by simp at hf;omega) hend
  rw[e,el]
  unfold openL
  rw[← List.append_assoc]at hg
  rw[hg]
  simp only
  rw[if_pos h2,← List.length_append,this]
def Zeros (s:List UInt8)(a k:Nat):Prop:=∀ i,a≤i→i<a+k→i<s.length→s[i]? =some 0
theorem getL_zero:∀ l:List UInt8,(∀ i,i<l.length→l[i]? =some 0)→Oct.getL l=0:=by
 intro l
 induction l with
 |nil=>intro _;rfl
 |cons c l ih=>
  intro h
  have h0:=h 0 (by simp)
  simp only[List.getElem?_cons_zero,Option.some.injEq]at h0
  have h1:=ih (fun i hi=>by have:=h (i+1) (by simpa using hi);simpa using this)
  subst h0
  unfold Oct.getL at h1 ⊢
  simpa using h1
theorem getN_zero {s:List UInt8}{a:Nat}(h:Zeros s a 4):Oct.getN s a 4=0:=by
 unfold Oct.getN
 refine getL_zero _ (fun i hi=>?_)
 rw[List.length_take,List.length_drop]at hi
 rw[List.getElem?_take,if_pos (by omega),List.getElem?_drop]
 exact h _ (by omega) (by omega) (by omega)
structure Lies (s:List UInt8) (l:List Rec):Prop where
 row:Row 0 l
 pre:s.take (bytes l).length=bytes l
 room:(bytes l).length≤s.length
 zero:Zeros s (bytes l).length 128
theorem Lies.not {s:List UInt8}{l:List Rec}(h:Lies s l):¬ Is s (bytes l).length:=
 is_zero (getN_zero fun i h1 h2 h3=>h.zero i h1 (by omega) h3)
theorem Lies.split {s:List UInt8}{l:List Rec}(h:Lies s l):s=[]++(bytes l++s.drop (bytes l).length):=by
 rw[List.nil_append]
 conv=>lhs;rw[← List.take_append_drop (bytes l).length s,h.pre]
theorem open_row {s:List UInt8}{l:List Rec}(hrow:Row 0 l)(hpre:s.take (bytes l).length=bytes l)(hno:¬ Is s (bytes l).length){f:Nat}(hf:l.length<f):openL s f 0=(l,(bytes l).length):=by
 have hs:s=[]++(bytes l++s.drop (bytes l).length):=by
  rw[List.nil_append]
  conv=>lhs;rw[← List.take_append_drop (bytes l).length s,hpre]
 have:=openL_row l [] (s.drop (bytes l).length) f hrow hf (fun r b hg=>by
  rw[← hs]at hg
  simp only[List.length_nil,Nat.zero_add]at hg
  rw[getO_no hno]at hg
  cases hg)
 rw[← hs]at this
 simpa using this
theorem Lies.opens {s:List UInt8}{l:List Rec}(h:Lies s l){f:Nat}(hf:l.length<f):openL s f 0=(l,(bytes l).length):=open_row h.row h.pre h.not hf
def mix (s n:List UInt8)(q:Nat):List UInt8:=s.take q++n.drop q
theorem mix_length {s n:List UInt8}{q:Nat}(h:s.length=n.length):(mix s n q).length=n.length:=by
 unfold mix;rw[List.length_append,List.length_take,List.length_drop];omega
theorem mix_get {s n:List UInt8}{q:Nat}(h:s.length=n.length)(i:Nat):(mix s n q)[i]? =if i<q then s[i]? else n[i]? :=by
 unfold mix
 by_cases hq:q≤s.length
 ·have hl:(s.take q).length=q:=by rw[List.length_take];omega
  by_cases hi:i<q
  ·rw[if_pos hi,List.getElem?_append_left (by omega),List.getElem?_take,if_pos hi]
  ·rw[if_neg hi,List.getElem?_append_right (by omega),hl,List.getElem?_drop]
   congr 1;omega
 ·rw[List.take_of_length_le (by omega),List.drop_of_length_le (by omega),List.append_nil]
  split
  ·rfl
  ·rw[List.getElem?_eq_none (by omega),List.getElem?_eq_none (by omega)]
theorem mix_eq {s n:List UInt8}{q:Nat}(h:s.length=n.length)(he:∀ i,i<q→s[i]? =n[i]?):mix s n q=n:=by
 refine List.ext_getElem? fun i=>?_
 rw[mix_get h]
 split
 ·rename_i hi;exact he i hi
 ·rfl
theorem mix_opens {s n:List UInt8}{l1 l2:List Rec}(hlen:s.length=n.length)(hs:Lies s l1)(hn:Lies n (l1++l2))(h2:l2≠[])(q:Nat){f:Nat}(hf:(l1++l2).length<f):
 openL (mix s n q) f 0=(l1,(bytes l1).length)∨mix s n q=n:=by
 obtain⟨r,l3,rfl⟩:∃ r l3,l2=r::l3:=by cases l2 with
  |nil=>exact absurd rfl h2
  |cons r l3=>exact⟨r,l3,rfl⟩
 obtain⟨a,ha⟩:=ex ((bytes l1).length)
 have hna:n.take a=bytes l1:=by
  have h3:=hn.pre
  rw[bytes_append]at h3
  have h4:=congrArg (List.take a) h3
  rw[List.take_take,List.take_left' ha.symm,List.length_append,Nat.min_eq_left (by omega)]at h4
  exact h4
 have hsa:s.take a=bytes l1:=by rw[ha];exact hs.pre
 have hagree:∀ i,i<a→s[i]? =n[i]? :=fun i hi=>by
  have h5:=congrArg (fun l:List UInt8=>l[i]?) (hsa.trans hna.symm)
  simp only[List.getElem?_take,if_pos hi]at h5
  exact h5
 by_cases hq:q≤a
 ·exact .inr (mix_eq hlen fun i hi=>hagree i (by omega))
 ·have hr:Right r:=by
   have:=hn.row
   rw[row_append]at this
   exact this.2.1
  have hbl:=bodyB_len hr
  have hroom:=hn.room
  rw[bytes_append,bytes_cons,List.length_append,List.length_append,putR_len,← ha]at hroom
  have hdrop:n.drop a=putR r++(bytes l3++n.drop (bytes (l1++r::l3)).length):=by
   have h6:=hn.split
   rw[List.nil_append]at h6
   conv=>lhs;rw[h6,bytes_append,bytes_cons]
   rw[List.append_assoc,List.drop_left' ha.symm,List.append_assoc,bytes_append,bytes_cons]
  by_cases hI:Is (mix s n q) a
  ·by_cases hu:a+4≤q
   ·exact absurd hI (is_zero (getN_zero fun i h3 h4 h5=>by
     rw[mix_length hlen]at h5
     rw[mix_get hlen,if_pos (by omega)]
     exact hs.zero i (by omega) (by omega) (by omega)))
   · -- one,two or three bytes of the length are old
    have hput:∀ j,j<4→n[a+j]? =some (UInt8.ofNat ((bodyB r).length/256^(4-1-j)%256)):=fun j hj=>by
     have h7:(n.drop a)[j]? =n[a+j]? :=List.getElem?_drop
     rw[← h7,hdrop]
     unfold putR
     rw[List.append_assoc,List.getElem?_append_left (by rw[Oct.putL_length];exact hj),Oct.putL_get _ _ _ hj]
    have hz:∀ j,a+j<q→s[a+j]? =some 0:=fun j hj=>hs.zero (a+j) (by omega) (by omega) (by omega)
    have hn0:n[a+0]? =some 0:=by
     rw[hput 0 (by omega),Nat.div_eq_of_lt (by show(bodyB r).length<16777216;omega)];rfl
    have hn1:n[a+1]? =some 0:=by
     rw[hput 1 (by omega),Nat.div_eq_of_lt (by show(bodyB r).length<65536;omega)];rfl
    by_cases h3:q=a+3
    ·by_cases h4:(bodyB r).length<256
     ·refine .inr (mix_eq hlen fun i hi=>?_)
      by_cases hia:i<a
      ·exact hagree i hia
      ·have hn2:n[a+2]? =some 0:=by
        rw[hput 2 (by omega),Nat.div_eq_of_lt (by show(bodyB r).length<256;omega)];rfl
       obtain⟨j,rfl⟩:∃ j,i=a+j:=⟨i-a,by omega⟩
       rw[hz j hi]
       obtain rfl|rfl|rfl:j=0∨j=1∨j=2:=by omega
       ·exact hn0.symm
       ·exact hn1.symm
       ·exact hn2.symm
     ·exfalso
      have hM:(mix s n q).drop a=[0,0,0]++n.drop (a+3):=by
       refine List.ext_getElem? fun i=>?_
       rw[List.getElem?_drop,mix_get hlen]
       by_cases hi:i<3
       ·rw[if_pos (by omega),hz i (by omega)]
        obtain rfl|rfl|rfl:i=0∨i=1∨i=2:=by omega
        ·rfl
        ·rfl
        ·rfl
       ·rw[if_neg (by omega),List.getElem?_append_right (by simp;omega),List.getElem?_drop]
        congr 1;simp;omega
      have hlast:n[a+3]? =some (UInt8.ofNat ((bodyB r).length%256)):=by
       have:=hput 3 (by omega)
       simpa using this
      have hg:Oct.getN (mix s n q) a 4=(bodyB r).length%256:=by
       have e1:((mix s n q).drop a).take 4=[0,0,0,UInt8.ofNat ((bodyB r).length%256)]:=by
        refine List.ext_getElem? fun i=>?_
        rw[List.getElem?_take]
        by_cases hi:i<4
        ·rw[if_pos hi,hM]
         obtain rfl|rfl|rfl|rfl:i=0∨i=1∨i=2∨i=3:=by omega
         ·rfl
         ·rfl
         ·rfl
         ·rw[List.getElem?_append_right (by simp),List.getElem?_drop]
          simpa using hlast
        ·rw[if_neg hi,List.getElem?_eq_none (by simp;omega)]
       unfold Oct.getN
       rw[e1]
       simp[Oct.getL]
      obtain⟨i1,i2,i3,i4⟩:=hI
      have hb:bodyAt (mix s n q) a=(bodyB r).take ((bodyB r).length%256):=by
       unfold bodyAt
       rw[hg]
       have e2:(mix s n q).drop (a+8)=n.drop (a+8):=by
        refine List.ext_getElem? fun i=>?_
        rw[List.getElem?_drop,List.getElem?_drop,mix_get hlen,if_neg (by omega)]
       rw[e2,← List.drop_drop,hdrop]
       unfold putR
       rw[← List.append_assoc (Oct.putL (bodyB r).length 4),List.append_assoc,List.drop_left' (by rw[List.length_append,Oct.putL_length,Oct.putL_length]),List.take_append_of_le_length (Nat.mod_le _ _)]
      rw[hb]at i3 i4
      have hpf:=body_prefix (l:=(bodyB r).drop ((bodyB r).length%256)) hr i3 (by rw[i4,List.take_append_drop])
      have hle:=congrArg (fun x=>(bodyB x).length) hpf
      simp only[i4,List.length_take]at hle
      omega
    ·refine .inr (mix_eq hlen fun i hi=>?_)
     by_cases hia:i<a
     ·exact hagree i hia
     ·obtain⟨j,rfl⟩:∃ j,i=a+j:=⟨i-a,by omega⟩
      rw[hz j hi]
      obtain rfl|rfl:j=0∨j=1:=by omega
      ·exact hn0.symm
      ·exact hn1.symm
  ·refine .inl ?_
   rw[ha]at hI
   refine open_row hs.row ?_ hI (by rw[List.length_append]at hf;omega)
   rw[← ha,← hsa]
   refine List.ext_getElem? fun i=>?_
   rw[List.getElem?_take,List.getElem?_take]
   split
   ·rw[mix_get hlen,if_pos (by omega)]
   ·rfl
def flat (L:List ByteArray):List UInt8:=L.flatMap (·.data.toList)
def Whole (L:List ByteArray):Prop:=∀ b∈L,b.size=128
theorem flat_cons (b:ByteArray)(L:List ByteArray):flat (b::L)=b.data.toList++flat L:=rfl
theorem flat_append (L M:List ByteArray):flat (L++M)=flat L++flat M:=List.flatMap_append
theorem Whole.tail {b:ByteArray}{L:List ByteArray}(h:Whole (b::L)):b.data.toList.length=128∧Whole L:=
 ⟨by have:=h b (List.mem_cons_self ..);simpa using this,fun x hx=>h x (List.mem_cons_of_mem _ hx)⟩
theorem Whole.set {L:List ByteArray}(h:Whole L)(k:Nat){b:ByteArray}(hb:b.size=128):Whole (L.set k b):=fun x hx=>by
 rcases List.mem_or_eq_of_mem_set hx with h1|h1
 ·exact h x h1
 ·rw[h1];exact hb
theorem Whole.take {L:List ByteArray}(h:Whole L)(k:Nat):Whole (L.take k):=fun x hx=>h x (List.mem_of_mem_take hx)
theorem Whole.drop {L:List ByteArray}(h:Whole L)(k:Nat):Whole (L.drop k):=fun x hx=>h x (List.mem_of_mem_drop hx)
theorem flat_len {L:List ByteArray}(h:Whole L):(flat L).length=L.length*128:=by
 induction L with
 |nil=>rfl
 |cons b L ih=>
  obtain⟨h1,h2⟩:=h.tail
  rw[flat_cons,List.length_append,h1,ih h2,List.length_cons];omega
theorem flat_set {L:List ByteArray}(h:Whole L){b:ByteArray}(hb:b.size=128):∀ (k:Nat),k<L.length→∀ i,(flat (L.set k b))[i]? =if k*128≤i∧i<k*128+128 then b.data.toList[i-k*128]? else(flat L)[i]? :=by
 have hbl:b.data.toList.length=128:=by simpa using hb
 induction L with
 |nil=>intro k hk;simp at hk
 |cons c L ih=>
  obtain⟨h1,h2⟩:=h.tail
  intro k hk i
  cases k with
  |zero=>
   rw[List.set_cons_zero,flat_cons,flat_cons]
   by_cases hi:i<128
   ·rw[if_pos (by omega),List.getElem?_append_left (by omega),Nat.zero_mul,Nat.sub_zero]
   ·rw[if_neg (by omega),List.getElem?_append_right (by omega),List.getElem?_append_right (by omega),hbl,h1]
  |succ k=>
   rw[List.set_cons_succ,flat_cons,flat_cons]
   by_cases hi:i<128
   ·rw[if_neg (by omega),List.getElem?_append_left (by omega),List.getElem?_append_left (by omega)]
   ·rw[List.getElem?_append_right (by omega),h1,ih h2 k (by simpa using hk) (i-128)]
    by_cases hc:(k+1)*128≤i∧i<(k+1)*128+128
    ·rw[if_pos hc,if_pos (by omega),show i-128-k*128=i-(k+1)*128 by omega]
    ·rw[if_neg hc,if_neg (by omega),List.getElem?_append_right (by omega),h1]
theorem mix_step {L:List ByteArray}{s n:List UInt8}{k:Nat}{b:ByteArray}(hw:Whole L)(hb:b.size=128)(hk:k<L.length)(hlen:s.length=n.length)(h:flat L=mix s n ((k+1)*128))
 (hn:b.data.toList=(n.drop (k*128)).take 128):flat (L.set k b)=mix s n (k*128):=by
 refine List.ext_getElem? fun i=>?_
 rw[flat_set hw hb k hk,h,mix_get hlen,mix_get hlen]
 by_cases h1:i<k*128
 ·rw[if_neg (by omega),if_pos (by omega),if_pos h1]
 ·rw[if_neg h1]
  by_cases h2:i<k*128+128
  ·rw[if_pos (by omega),hn,List.getElem?_take,if_pos (by omega),List.getElem?_drop];congr 1;omega
  ·rw[if_neg (by omega),if_neg (by omega)]
theorem flat_drop {L:List ByteArray}(h:Whole L)(k:Nat):flat (L.drop k)=(flat L).drop (k*128):=by
 induction k generalizing L with
 |zero=>simp
 |succ k ih=>
  cases L with
  |nil=>simp[flat]
  |cons b L=>
   obtain⟨h1,h2⟩:=h.tail
   rw[List.drop_succ_cons,ih h2,flat_cons,show(k+1)*128=128+k*128 by omega,← List.drop_drop,List.drop_left' h1]
theorem flat_take {L:List ByteArray}(h:Whole L)(k:Nat):flat (L.take k)=(flat L).take (k*128):=by
 induction k generalizing L with
 |zero=>simp[flat]
 |succ k ih=>
  cases L with
  |nil=>simp[flat]
  |cons b L=>
   obtain⟨h1,h2⟩:=h.tail
   rw[List.take_succ_cons,flat_cons,ih h2,flat_cons,show(k+1)*128=128+k*128 by omega,List.take_append,h1,Nat.add_sub_cancel_left,List.take_of_length_le (l:=b.data.toList) (by omega)]
theorem getO_drop (s:List UInt8)(d a:Nat)(h:d≤s.length):getO (s.drop d) a=(getO s (d+a)).map fun x=>(x.1,x.2-d):=by
 have hg:∀ k m,Oct.getN (s.drop d) k m=Oct.getN s (d+k) m:=fun k m=>by unfold Oct.getN;rw[List.drop_drop]
 have hb:bodyAt (s.drop d) a=bodyAt s (d+a):=by unfold bodyAt;rw[hg,List.drop_drop,Nat.add_assoc]
 have hI:Is (s.drop d) a↔Is s (d+a):=by
  unfold Is
  rw[hg,hg,hb,List.length_drop,Nat.add_assoc d a 4]
  constructor
  ·rintro⟨h1,h2⟩;exact⟨by omega,h2⟩
  ·rintro⟨h1,h2⟩;exact⟨by omega,h2⟩
 by_cases h1:Is s (d+a)
 ·rw[getO_yes h1,getO_yes (hI.2 h1),hb,hg]
  simp only[Option.map_some]
  congr 2;omega
 ·rw[getO_no h1,getO_no (fun h=>h1 (hI.1 h))];rfl
structure Dk where
 sectors:List ByteArray
 left:Int
 down:Bool
structure Lo where
 from_:Int
 n:Int
 end_:Int
 safe:Int
 tail:ByteArray
instance:DecidableEq Lo:=fun a b=>
 if h:a.from_=b.from_∧a.n=b.n∧a.end_=b.end_∧a.safe=b.safe∧a.tail=b.tail then
  .isTrue (by obtain⟨a1,a2,a3,a4,a5⟩:=a;obtain⟨b1,b2,b3,b4,b5⟩:=b;simp only at h;obtain⟨rfl,rfl,rfl,rfl,rfl⟩:=h;rfl)
 else .isFalse (fun e=>h (by subst e;exact⟨rfl,rfl,rfl,rfl,rfl⟩))
def noLog:Lo:=⟨0,0,0,0,⟨#[]⟩⟩
def zero128:ByteArray:=⟨(List.replicate 128 0).toArray⟩
theorem zero128_size:zero128.size=128:=by unfold zero128;show(List.replicate 128 (0:UInt8)).toArray.size=_;simp
def newD (n:Nat):Dk:=⟨List.replicate n zero128,-1,false⟩
def armD (d:Dk)(n:Int):Dk:={d with left:=if n<0 then -1 else n}
def startD (d:Dk):Dk:={d with left:= -1,down:=false}
def hasD (d:Dk)(at_:Int):Prop:=0≤at_∧at_<(d.sectors.length:Int)
instance (d:Dk) (a:Int):Decidable (hasD d a):=by unfold hasD;exact inferInstance
def secAt (d:Dk)(at_:Int):ByteArray:=d.sectors[at_.toNat]?.getD ⟨#[]⟩
def readD (d:Dk)(at_:Int):ByteArray×Int:=if d.down then(⟨#[]⟩,20)else if hasD d at_ then(secAt d at_,0)else(⟨#[]⟩,1)
def writeD (d:Dk)(at_:Int)(b:ByteArray):Dk×Int:=
 if d.down then(d,20)else if ¬ (hasD d at_∧b.size=128)then(d,1)else if d.left=0 then({d with down:=true},20)
 else({d with sectors:=d.sectors.set at_.toNat b,left:=if 0<d.left then d.left-1 else d.left},0)
def secsD (d:Dk)(from_:Int):Nat→Except Int (List UInt8)
 |0=>.ok []
 |n+1=>if(readD d from_).2=0 then match secsD d (from_+1) n with
  | .ok l=>.ok ((readD d from_).1.data.toList++l)
  | .error e=>.error e
  else .error (readD d from_).2
def pad128 (l:List UInt8):ByteArray:=⟨(l++List.replicate (128-l.length) 0).toArray⟩
theorem pad128_size {l:List UInt8}(h:l.length≤128):(pad128 l).size=128:=by
 unfold pad128
 show(l++List.replicate (128-l.length) (0:UInt8)).toArray.size=_
 simp;omega
def cutW (l:List UInt8):List ByteArray:=if _h:l=[]then[]else pad128 (l.take 128)::cutW (l.drop 128)
termination_by l.length
decreasing_by
 cases l with
 |nil=>contradiction
 |cons a l=>simp;omega
theorem cutW_nil:cutW []=[]:=by rw[cutW];simp
theorem cutW_cons {l:List UInt8}(h:l≠[]):cutW l=pad128 (l.take 128)::cutW (l.drop 128):=by
 conv=>lhs;rw[cutW]
 rw[dif_neg h]
def cutB (s:ByteArray):List ByteArray:=cutW s.data.toList
theorem cutW_size (n:Nat):∀ l:List UInt8,l.length≤n→∀ b∈cutW l,b.size=128:=by
 induction n with
 |zero=>
  intro l hl b hb
  rw[List.eq_nil_of_length_eq_zero (l:=l) (by omega),cutW_nil]at hb
  cases hb
 |succ n ih=>
  intro l hl b hb
  by_cases h:l=[]
  ·rw[h,cutW_nil]at hb;cases hb
  ·rw[cutW_cons h]at hb
   rcases List.mem_cons.1 hb with h1|h1
   ·rw[h1];exact pad128_size (by rw[List.length_take];omega)
   ·have h0:0<l.length:=by cases l with
     |nil=>contradiction
     |cons a l=>simp
    exact ih _ (by rw[List.length_drop];omega) b h1
theorem cutW_length (n:Nat):∀ l:List UInt8,l.length≤n→(cutW l).length=(l.length+127)/128:=by
 induction n with
 |zero=>
  intro l hl
  rw[List.eq_nil_of_length_eq_zero (l:=l) (by omega),cutW_nil];rfl
 |succ n ih=>
  intro l hl
  by_cases h:l=[]
  ·rw[h,cutW_nil];rfl
  ·have h0:0<l.length:=by cases l with
    |nil=>contradiction
    |cons a l=>simp
   rw[cutW_cons h,List.length_cons,ih _ (by rw[List.length_drop];omega),List.length_drop]
   omega
theorem cutB_length (s:ByteArray):(cutB s).length=(s.size+127)/128:=by
 unfold cutB;rw[cutW_length _ _ (Nat.le_refl _)];simp
theorem cutB_size (s:ByteArray):∀ b∈cutB s,b.size=128:=cutW_size _ _ (Nat.le_refl _)
def putAll (base:Int)(all:List ByteArray):Nat→Dk→Dk×Int
 |0,d=>(d,0)
 |i+1,d=>if(writeD d (base+(i:Int)) (all[i]?.getD ⟨#[]⟩)).2=0 then putAll base all i (writeD d (base+(i:Int)) (all[i]?.getD ⟨#[]⟩)).1 else writeD d (base+(i:Int)) (all[i]?.getD ⟨#[]⟩)
def firstS (l:Lo):Int:=(l.end_-(l.tail.size:Int))/128
def allS (l:Lo):List ByteArray:=if firstS l+(cutB l.tail).length<l.n then cutB l.tail++[zero128]else cutB l.tail
def forcedL (l:Lo):Lo:={l with safe:=l.end_,tail:=l.tail.extract (l.tail.size-(l.end_%128).toNat) l.tail.size}
def forceD (d:Dk)(l:Lo):Dk×Lo×Int:=
 if l.safe=l.end_ then(d,l,0)else
 let x:=putAll (l.from_+firstS l) (allS l) (allS l).length d
 if x.2=0 then(x.1,forcedL l,0)else(x.1,l,x.2)
noncomputable def openD (d:Dk) (from_ n:Int):Lo×List Rc.Rec×Int:=
 match secsD d from_ n.toNat with
 | .error e=>(noLog,[],e)
 | .ok s=>
   let x:=openL s (s.length+1) 0
   (⟨from_,n,(x.2:Int),(x.2:Int),⟨((s.take x.2).drop (x.2-x.2%128)).toArray⟩⟩,x.1,0)
open Classical in
noncomputable def appendD (l:Lo) (r:Rc.Rec):Lo×Int×Int:=
 let r':Rc.Rec:={r with lsn:=l.end_+1}
 if ¬ Rc.Right r' then(l,0,1)else
 if l.n*128-((putR r').length:Int)<l.end_ then(l,0,18)else
 ({l with end_:=l.end_+((putR r').length:Int),tail:=l.tail++⟨(putR r').toArray⟩},l.end_+1,0)
noncomputable def readL (d:Dk) (l:Lo) (lsn:Int):Except Int Rc.Rec:=
 if lsn<1∨l.end_<lsn then .error 21 else
 let base:=(l.end_-(l.tail.size:Int))/128
 let first:=min ((lsn-1)/128) base
 match secsD d (l.from_+first) (base-first).toNat with
 | .error e=>.error e
 | .ok s=>match getO (s++l.tail.data.toList) (lsn-1-first*128).toNat with
   |none=>.error 21
   |some (r,_)=>if r.lsn=lsn then .ok r else .error 21
end Lg
namespace Go.Proofs.YtilakddepaplhaaGreat
open Go.RowKit
def strC (b:ByteArray):List Value:=[.string b]
theorem strC_len (b:ByteArray):(strC b).length=1:=rfl
theorem strC_map (l:List ByteArray):l.flatMap strC=l.map Value.string:=by
 induction l with
 |nil=>rfl
 |cons b l ih=>rw[List.flatMap_cons,ih];rfl
abbrev diskV (d:Lg.Dk)(A:Option Addr)(c:Nat):Value:=.agg #[.slice A d.sectors.length c,d.left,d.down]
structure DiskR (w:World) (d:Lg.Dk) (A:Option Addr) (c:Nat):Prop where
 secs:Reads w A c d.sectors.length (d.sectors.flatMap strC)
 small:d.sectors.length≤1000000
theorem DiskR.below {w w':World}{d:Lg.Dk}{A:Option Addr}{c:Nat}(h:DiskR w d A c)(hb:Below w.heap.size w w'):DiskR w' d A c:=⟨h.secs.below hb,h.small⟩
theorem has_any (d:Lg.Dk)(A:Option Addr)(c:Nat)(a:Int)(w:World):
 Calls Tryz.prog 76 #[diskV d A c,a] w fun e w'=>e= .returned (.bool (decide (Lg.hasD d a)))∧Below w.heap.size w w':=by
 obtain⟨L,left,down⟩:=d
 by_cases h0:0≤a
 ·by_cases h1:a<(L.length:Int)
  ·rw[decide_eq_true (show Lg.hasD ⟨L,left,down⟩ a from And.intro h0 h1)]
   go_enter Tryz.func76,Tryz.ntmps76
   go_wp2_with fail
   go_ret
   exact⟨by simp,allocB _ _⟩
  ·rw[decide_eq_false (show ¬ Lg.hasD ⟨L,left,down⟩ a from fun h=>h1 h.2)]
   go_enter Tryz.func76,Tryz.ntmps76
   go_wp2_with fail
   go_ret
   exact⟨by simp,allocB _ _⟩
 ·rw[decide_eq_false (show ¬ Lg.hasD ⟨L,left,down⟩ a from fun h=>h0 h.1)]
  go_enter Tryz.func76,Tryz.ntmps76
  go_wp2_with fail
  go_ret
  exact⟨by simp,allocB _ _⟩
theorem dread_any (d:Lg.Dk)(A:Option Addr)(c:Nat)(a:Int)(w:World)(h:DiskR w d A c):
 Calls Tryz.prog 36 #[diskV d A c,a] w fun e w'=>e= .returned (.tuple #[.string (Lg.readD d a).1,.int .i64 (Lg.readD d a).2])∧Below w.heap.size w w':=by
 have HH:=Hq (fun W=>has_any d A c a W)
 have HR:=Hq h.secs
 clear h
 unfold Lg.readD
 cases hd:d.down with
 |true=>
  obtain⟨L,left,down⟩:=d
  simp only at hd
  subst hd
  rw[if_pos rfl]
  dsimp only[diskV]
  go_enter Tryz.func36,Tryz.ntmps36
  go_wp2_with fail
  go_ret2
  exact⟨rfl,allocB _ _⟩
 |false=>
  rw[if_neg (by simp)]
  by_cases hh:Lg.hasD d a
  ·rw[if_pos hh]
   rw[decide_eq_true hh]at HH
   obtain⟨L,left,down⟩:=d
   simp only at hd
   subst hd
   unfold Lg.hasD at hh
   unfold Lg.secAt
   dsimp only[diskV]at hh HH HR ⊢
   obtain⟨h0,h1⟩:=hh
   obtain⟨k,rfl⟩:=Int.eq_ofNat_of_zero_le h0
   have hk:k<L.length:=by omega
   obtain⟨b,off,rfl,hc,hbl,hcell⟩:=read_at strC_len HR.out hk
   have q0:=hcell 0 _ rfl
   simp only[Nat.mul_one,Nat.add_zero]at q0
   rw[Int.toNat_natCast,List.getElem?_eq_getElem hk,Option.getD_some]
   generalize L[k]=x at q0 ⊢
   have Q0:=Hq q0
   clear q0 hcell h0
   go_enter Tryz.func36,Tryz.ntmps36
   go_upto_region 5 with(go_at_call 76;(with_reducible refine(HH.out _).mono ?_);rintro e w1 ⟨rfl,hb1⟩;have hbx:=blkCell (blkNew hb1))
   have q1:w1.cell? ⟨b,off+k,none⟩=some (.string x):=(joinB (allocB w _) hb1).cell (p:=⟨b,off+k,none⟩) hbl|>.trans Q0.out
   have HB1:=Hq (joinB (allocB w _) hb1)
   clear hb1
   go_wp2_with fail
   go_ret2
   exact⟨rfl,HB1.out⟩
  ·rw[if_neg hh]
   rw[decide_eq_false hh]at HH
   clear hh
   obtain⟨L,left,down⟩:=d
   simp only at hd
   subst hd
   dsimp only[diskV]at HH ⊢
   go_enter Tryz.func36,Tryz.ntmps36
   go_wp2_with (go_at_call 76;(with_reducible refine(HH.out _).mono ?_);rintro e w1 ⟨rfl,hb1⟩)
   go_ret2
   exact⟨rfl,joinB (allocB _ _) hb1⟩
def WriteOut (x:Lg.Dk×Int)(A:Option Addr)(w:World)(e:Ending)(w':World):Prop:=
 ∃ A' c',e= .returned (.tuple #[diskV x.1 A' c',x.2])∧DiskR w' x.1 A' c'∧(A'=A∨NewT w.heap.size w' 9 A')∧Below w.heap.size w w'
theorem clone_any (l:List ByteArray)(A:Option Addr)(c:Nat)(h0:0<l.length)(hl:l.length≤1000000)(w:World)(h:Reads w A c l.length (l.flatMap strC)):
 Calls Tryz.prog 91 #[.slice A l.length c] w fun e w'=>∃ v,e= .returned v∧w'.ownsRow w.heap.size 9 1 v l.length (l.map Value.string)∧Below w.heap.size w w':=by
 obtain⟨b,off,rfl,_,_,hcell⟩:=h h0
 refine(Tryz.slices_Clone_string b off l.length c l w (Nat.le_refl _) (by omega) (fun j hj=>?_)).mono ?_
 ·have h1:=hcell j (.string l[j]) (by rw[strC_map];simp[hj])
  rw[h1,List.getD_eq_getElem?_getD,List.getElem?_eq_getElem hj]
  rfl
 ·rintro e w' ⟨v,rfl,h1,_,h2⟩
  rw[List.take_length]at h1
  exact⟨v,rfl,h1,h2⟩
theorem write_keep {d:Lg.Dk}{A:Option Addr}{c:Nat}{w w':World}{dn:Bool}{k:Int}{x:Lg.Dk×Int}(hx:x=(⟨d.sectors,d.left,dn⟩,k))(h:DiskR w d A c)(hb:Below w.heap.size w w'):WriteOut x A w (.returned (.tuple #[.agg #[.slice A d.sectors.length c,d.left,dn],k])) w':=by
 subst hx
 exact⟨A,c,rfl,⟨h.secs.below hb,h.small⟩,.inl rfl,hb⟩
theorem write_new {L:List ByteArray}{A A':Option Addr}{n c:Nat}{w w':World}{left:Int}{x:Lg.Dk×Int}(hx:x=(⟨L,left,false⟩,0))(hn:L.length=n){vs:List Value}(h:Reads w' A' c n vs){M:List ByteArray}{k:Nat}{b:ByteArray}(hv:vs=(M.map Value.string).set k (.string b))(hL:L=M.set k b)(hl:L.length≤1000000)(hA:NewT w.heap.size w' 9 A')(hb:Below w.heap.size w w'):
 WriteOut x A w (.returned (.tuple #[.agg #[.slice A' n c,left,false],()])) w':=by
 subst hx hn
 refine⟨A',c,rfl,⟨?_,hl⟩,.inr hA,hb⟩
 rw[strC_map]
 show Reads w' A' c L.length (L.map Value.string)
 rw[hv]at h
 rw[hL,List.map_set]
 rw[hL]at h
 exact h
theorem dwrite_down (L:List ByteArray)(left:Int)(A:Option Addr)(c:Nat)(a:Int)(b:ByteArray)(x:Lg.Dk×Int)(hx:x=(⟨L,left,true⟩,20))(w:World)(h:DiskR w ⟨L,left,true⟩ A c):
 Calls Tryz.prog 49 #[.agg #[.slice A L.length c,left,true],a,b] w (WriteOut x A w):=by
 have HO:=Hq (fun w' hb=>write_keep (dn:=true) hx h (w':=w') hb)
 dsimp only at HO
 clear hx h
 go_enter Tryz.func49,Tryz.ntmps49
 go_upto_region 1 with fail
 have H0:=nW2 w #[.slice A L.length c,left,true] 29 #["s",(),false] 29
 have hc0:=blkCell H0.out.get0
 obtain⟨W0,hW0⟩:=exW H0
 rw[← hW0]at H0 hc0 ⊢
 clear hW0
 have HX0:=Hq (show W0.heap[w.heap.size]? =some (.cells #[.slice A L.length c,left,true] 29 (0,0))from(by have h:=H0.out.get0;simpa using h))
 go_wp2_with (first|(with_reducible refine lL HX0.out Tryz.underlying29 ?_)|(with_reducible refine lS #[.slice A L.length c,left,true] H0.out.get1 ?_))
 refine bodyPost_ret (v:=.tuple #[.agg #[.slice A L.length c,left,true],.int .i64 20]) (results_cell2 rfl _ _ rfl (load_whole (setRow_heap _ _ _ _ _ _ H0.out.get1) Tryz.underlying29 Kr Kr) rfl) rfl ?_
 exact HO.out _ ((H0.out.row 1 _ _ rfl).below)
theorem dwrite_arg (L:List ByteArray)(left:Int)(A:Option Addr)(c:Nat)(a:Int)(b:ByteArray)(hno:¬ (Lg.hasD ⟨L,left,false⟩ a∧b.size=128))(x:Lg.Dk×Int)(hx:x=(⟨L,left,false⟩,1))(w:World)(h:DiskR w ⟨L,left,false⟩ A c):
 Calls Tryz.prog 49 #[.agg #[.slice A L.length c,left,false],a,b] w (WriteOut x A w):=by
 have HO:=Hq (fun w' hb=>write_keep (dn:=false) hx h (w':=w') hb)
 dsimp only at HO
 have HH:=Hq (fun W=>has_any ⟨L,left,false⟩ A c a W)
 clear hx h
 by_cases hh:Lg.hasD ⟨L,left,false⟩ a
 ·rw[decide_eq_true hh]at HH
  have hs:¬ b.size=128:=fun e=>hno ⟨hh,e⟩
  have hs2:((b.size:Int)==128)=false:=by simp;omega
  have hs3:((b.size:Int) != 128)=true:=by simp;omega
  have hs4:(b.size==128)=false:=by simp;omega
  have hs5:(b.size != 128)=true:=by simp;omega
  clear hno hh
  dsimp only[diskV]at HH
  go_enter Tryz.func49,Tryz.ntmps49
  go_upto_region 1 with fail
  have H0:=nW2 w #[.slice A L.length c,left,false] 29 #["s",(),false] 29
  have hc0:=blkCell H0.out.get0
  obtain⟨W0,hW0⟩:=exW H0
  rw[← hW0]at H0 hc0 ⊢
  clear hW0
  have HX0:=Hq (show W0.heap[w.heap.size]? =some (.cells #[.slice A L.length c,left,false] 29 (0,0))from(by have h:=H0.out.get0;simpa using h))
  go_upto_region 4 with(first|(with_reducible refine lL HX0.out Tryz.underlying29 ?_)|(go_at_call 76;(with_reducible refine(HH.out _).mono ?_);rintro e w1 ⟨rfl,hb1⟩;have H1:=Hq (H0.out.step hb1);clear hb1;have hc1:=blkCell H1.out.get0))
  have HX1:=Hq (show w1.heap[w.heap.size]? =some (.cells #[.slice A L.length c,left,false] 29 (0,0))from(by have h:=H1.out.get0;simpa using h))
  clear hs hs2 hs3 hs4 hs5
  go_wp2_with (first|(with_reducible refine lL HX1.out Tryz.underlying29 ?_)|(with_reducible refine lS #[.slice A L.length c,left,false] H1.out.get1 ?_))
  refine bodyPost_ret (v:=.tuple #[.agg #[.slice A L.length c,left,false],.int .i64 1]) (results_cell2 rfl _ _ rfl (load_whole (setRow_heap _ _ _ _ _ _ H1.out.get1) Tryz.underlying29 Kr Kr) rfl) rfl ?_
  exact HO.out _ ((H1.out.row 1 _ _ rfl).below)
 ·rw[decide_eq_false hh]at HH
  clear hno hh
  dsimp only[diskV]at HH
  go_enter Tryz.func49,Tryz.ntmps49
  go_upto_region 1 with fail
  have H0:=nW2 w #[.slice A L.length c,left,false] 29 #["s",(),false] 29
  have hc0:=blkCell H0.out.get0
  obtain⟨W0,hW0⟩:=exW H0
  rw[← hW0]at H0 hc0 ⊢
  clear hW0
  have HX0:=Hq (show W0.heap[w.heap.size]? =some (.cells #[.slice A L.length c,left,false] 29 (0,0))from(by have h:=H0.out.get0;simpa using h))
  go_upto_region 4 with(first|(with_reducible refine lL HX0.out Tryz.underlying29 ?_)|(go_at_call 76;(with_reducible refine(HH.out _).mono ?_);rintro e w1 ⟨rfl,hb1⟩;have H1:=Hq (H0.out.step hb1);clear hb1;have hc1:=blkCell H1.out.get0))
  have HX1:=Hq (show w1.heap[w.heap.size]? =some (.cells #[.slice A L.length c,left,false] 29 (0,0))from(by have h:=H1.out.get0;simpa using h))
  go_wp2_with (first|(with_reducible refine lL HX1.out Tryz.underlying29 ?_)|(with_reducible refine lS #[.slice A L.length c,left,false] H1.out.get1 ?_))
  refine bodyPost_ret (v:=.tuple #[.agg #[.slice A L.length c,left,false],.int .i64 1]) (results_cell2 rfl _ _ rfl (load_whole (setRow_heap _ _ _ _ _ _ H1.out.get1) Tryz.underlying29 Kr Kr) rfl) rfl ?_
  exact HO.out _ ((H1.out.row 1 _ _ rfl).below)
theorem dwrite_out (L:List ByteArray)(A:Option Addr)(c:Nat)(a:Int)(b:ByteArray)(hh:Lg.hasD ⟨L,0,false⟩ a)(hs:b.size=128)(x:Lg.Dk×Int)(hx:x=(⟨L,0,true⟩,20))(w:World)(h:DiskR w ⟨L,0,false⟩ A c):
 Calls Tryz.prog 49 #[.agg #[.slice A L.length c,(),false],a,b] w (WriteOut x A w):=by
 have HO:=Hq (fun w' hb=>write_keep (dn:=true) hx h (w':=w') hb)
 dsimp only at HO
 have HH:=Hq (fun W=>has_any ⟨L,0,false⟩ A c a W)
 rw[decide_eq_true hh]at HH
 have hs1:((b.size:Int)==128)=true:=by simp;omega
 have hs2:((b.size:Int) != 128)=false:=by simp;omega
 have hs3:(b.size==128)=true:=by simp;omega
 have hs4:(b.size != 128)=false:=by simp;omega
 clear hx h hs hh
 dsimp only[diskV]at HH
 go_enter Tryz.func49,Tryz.ntmps49
 go_upto_region 1 with fail
 have H0:=nW2 w #[.slice A L.length c,(),false] 29 #["s",(),false] 29
 have hc0:=blkCell H0.out.get0
 obtain⟨W0,hW0⟩:=exW H0
 rw[← hW0]at H0 hc0 ⊢
 clear hW0
 have HX0:=Hq (show W0.heap[w.heap.size]? =some (.cells #[.slice A L.length c,(),false] 29 (0,0))from(by have h:=H0.out.get0;simpa using h))
 go_upto_region 5 with(first|(with_reducible refine lL HX0.out Tryz.underlying29 ?_)|(go_at_call 76;(with_reducible refine(HH.out _).mono ?_);rintro e w1 ⟨rfl,hb1⟩;have H1:=Hq (H0.out.step hb1);clear hb1;have hc1:=blkCell H1.out.get0))
 clear hs1 hs2 hs3 hs4
 have hz1:=blkFrozen H1.out.get0
 go_upto_region 7 with fail
 have HX2:=Hq (show(w1.setCell ⟨w.heap.size,2,none⟩ (.bool true)).heap[w.heap.size]? =some (.cells #[.slice A L.length c,(),true] 29 (0,0))from by have h:=(H1.out.set 0 2 (.bool true) _ rfl).get 0 _ rfl;simpa using h)
 have H2:=Hq (H1.out.set 0 2 (.bool true) _ rfl)
 go_wp2_with (first|(with_reducible refine lL HX2.out Tryz.underlying29 ?_)|(with_reducible refine lS #[.slice A L.length c,(),true] H2.out.get1 ?_))
 refine bodyPost_ret (v:=.tuple #[.agg #[.slice A L.length c,(),true],.int .i64 20]) (results_cell2 rfl _ _ rfl (load_whole (setRow_heap _ _ _ _ _ _ H2.out.get1) Tryz.underlying29 Kr Kr) rfl) rfl ?_
 exact HO.out _ ((H2.out.row 1 _ _ rfl).below)
theorem dwrite_on (L:List ByteArray)(left:Int)(hl0:left≠0)(hlb: -9223372036854775808≤left∧left≤9223372036854775807)(A:Option Addr)(c:Nat)(k:Nat)(b:ByteArray)(hk:k<L.length)(hs:b.size=128)(x:Lg.Dk×Int)(hx:x=(⟨L.set k b,if 0<left then left-1 else left,false⟩,0))(w:World)(h:DiskR w ⟨L,left,false⟩ A c):
 Calls Tryz.prog 49 #[.agg #[.slice A L.length c,left,false],.int .i64 (k:Int),b] w (WriteOut x A w):=by
 have HH:=Hq (fun W=>has_any ⟨L,left,false⟩ A c k W)
 rw[decide_eq_true (show Lg.hasD ⟨L,left,false⟩ (k:Int)from⟨by omega,by show(k:Int)<(L.length:Int);omega⟩)]at HH
 have hs1:((b.size:Int)==128)=true:=by simp;omega
 have hs2:((b.size:Int) != 128)=false:=by simp;omega
 have hs3:(b.size==128)=true:=by simp;omega
 have hs4:(b.size != 128)=false:=by simp;omega
 have hl1:(left==0)=false:=by simpa using hl0
 have hlen:L.length≤1000000:=h.small
 have HC:=Hq (fun W (hb:Below w.heap.size w W)=>clone_any L A c (by omega) hlen W (h.secs.below hb))
 have HX:=Hq hx
 have hkI:(k:Int)<(L.length:Int):=by omega
 clear hx h hs
 dsimp only[diskV]at HH
 go_enter Tryz.func49,Tryz.ntmps49
 go_upto_region 1 with fail
 have H0:=nW2 w #[.slice A L.length c,left,false] 29 #["s",(),false] 29
 have hc0:=blkCell H0.out.get0
 obtain⟨W0,hW0⟩:=exW H0
 rw[← hW0]at H0 hc0 ⊢
 clear hW0
 have HX0:=Hq (show W0.heap[w.heap.size]? =some (.cells #[.slice A L.length c,left,false] 29 (0,0))from(by have h:=H0.out.get0;simpa using h))
 go_upto_region 8 with(first|(with_reducible refine lL HX0.out Tryz.underlying29 ?_)|(go_at_call 76;(with_reducible refine(HH.out _).mono ?_);rintro e w1 ⟨rfl,hb1⟩;have H1:=Hq (H0.out.step hb1);clear hb1;have hc1:=blkCell H1.out.get0))
 clear hs1 hs2 hs3 hs4 hl1 HH hc0 HX0 H0
 go_upto_region 9 with(first|(go_at_call 91;(with_reducible refine(HC.out _ H1.out.below).mono ?_);rintro e w2 ⟨v,rfl,ho,hb2⟩;obtain⟨A2,c2,rfl⟩:=ownLen ho;have H2:=Hq (H1.out.step hb2);have hz2:=blkFrozen H2.out.get0;have hc2:=blkCell H2.out.get0;clear hb2 hc1))
 clear hc2 hz2
 have hsz:=H1.out.lt (i:=1) (by simp)
 have ho2:=ownSet ho ⟨w.heap.size,0,none⟩ (.slice A2 L.length c2) (by show w.heap.size<_;omega)
 obtain⟨g,cap,hv,hg,hgl,hcap,hcl,hfz,hset⟩:=ownAt ho2 hk
 injection hv with hv1 hv2 hv3
 subst hv1 hv3
 have H3:=Hq (H2.out.set 0 0 (.slice (some ⟨g,0,none⟩) L.length c2) _ rfl)
 simp only[Nat.add_zero]at H3
 obtain⟨W3,hW3⟩:=ex (w2.setCell ⟨w.heap.size,0,none⟩ (.slice (some ⟨g,0,none⟩) L.length c2))
 rw[← hW3]at H3 hcl hfz hset hgl ⊢
 have hc3:=blkCell H3.out.get0
 rw[List.getElem?_eq_getElem (by simpa using hk)]at hcl
 simp only[List.getElem_map]at hcl
 have HSET:=Hq hset
 clear hW3 H2 ho ho2 hset
 go_upto_region 10 with fail
 have hgw:w.heap.size+2≤g:=by omega
 have H4:=Hq (H3.out.under (M:=g) (by show w.heap.size+2≤g;exact hgw) ((Below.refl g W3).setCell (p:=⟨g,k,none⟩) (Nat.le_refl g) (.string b)))
 have HO4:=Hq (HSET.out (.string b))
 obtain⟨W4,hW4⟩:=ex (W3.setCell ⟨g,k,none⟩ (.string b))
 rw[← hW4]at H4 HO4 ⊢
 have hc4:=blkCell H4.out.get0
 have hz4:=blkFrozen H4.out.get0
 clear hW4 hc3 hcl hfz HSET
 by_cases hp:0<left
 ·rw[if_pos hp]at HX
  have hwl:IntKind.i64.wrap (left-1)=left-1:=IntWalk.i64_in _ (by omega)
  go_upto_region 12 with fail
  have H5:=Hq (H4.out.set 0 1 (.int .i64 (left-1)) _ rfl)
  have HX5:=Hq (show(W4.setCell ⟨w.heap.size,1,none⟩ (.int .i64 (left-1))).heap[w.heap.size]? =some (.cells #[.slice (some ⟨g,0,none⟩) L.length c2,.int .i64 (left-1),false] 29 (0,0))from by have h:=H5.out.get0;simpa using h)
  have HO5:=Hq (ownSet HO4.out ⟨w.heap.size,1,none⟩ (.int .i64 (left-1)) (by show w.heap.size<_;omega))
  go_wp2_with (first|(with_reducible refine lL HX5.out Tryz.underlying29 ?_)|(with_reducible refine lS #[.slice (some ⟨g,0,none⟩) L.length c2,.int .i64 (left-1),false] H5.out.get1 ?_))
  refine bodyPost_ret (v:=.tuple #[.agg #[.slice (some ⟨g,0,none⟩) L.length c2,.int .i64 (left-1),false],()]) (results_cell2 rfl _ _ rfl (load_whole (setRow_heap _ _ _ _ _ _ H5.out.get1) Tryz.underlying29 Kr Kr) rfl) rfl ?_
  exact write_new HX.out (by rw[List.length_set]) ((own_reads HO5.out).offRow _ _ (fun _ ad e=>(by injection e with e;rw[← e];show g≠w.heap.size+1;omega))) rfl rfl (by rw[List.length_set];exact hlen) (((NewT.own HO5.out).row _ _).mono (by omega)) ((H5.out.row 1 _ _ rfl).below)
 ·rw[if_neg hp]at HX
  have HX4:=Hq (show W4.heap[w.heap.size]? =some (.cells #[.slice (some ⟨g,0,none⟩) L.length c2,left,false] 29 (0,0))from(by have h:=H4.out.get0;simpa using h))
  go_wp2_with (first|(with_reducible refine lL HX4.out Tryz.underlying29 ?_)|(with_reducible refine lS #[.slice (some ⟨g,0,none⟩) L.length c2,left,false] H4.out.get1 ?_))
  refine bodyPost_ret (v:=.tuple #[.agg #[.slice (some ⟨g,0,none⟩) L.length c2,left,false],()]) (results_cell2 rfl _ _ rfl (load_whole (setRow_heap _ _ _ _ _ _ H4.out.get1) Tryz.underlying29 Kr Kr) rfl) rfl ?_
  exact write_new HX.out (by rw[List.length_set]) ((own_reads HO4.out).offRow _ _ (fun _ ad e=>(by injection e with e;rw[← e];show g≠w.heap.size+1;omega))) rfl rfl (by rw[List.length_set];exact hlen) (((NewT.own HO4.out).row _ _).mono (by omega)) ((H4.out.row 1 _ _ rfl).below)
theorem dwrite_any (d:Lg.Dk)(hlb: -9223372036854775808≤d.left∧d.left≤9223372036854775807)(A:Option Addr)(c:Nat)(a:Int)(b:ByteArray)(w:World)(h:DiskR w d A c):
 Calls Tryz.prog 49 #[diskV d A c,a,b] w (WriteOut (Lg.writeD d a b) A w):=by
 obtain⟨L,left,down⟩:=d
 cases down with
 |true=>exact dwrite_down L left A c a b _ (by unfold Lg.writeD;rw[if_pos rfl]) w h
 |false=>
  by_cases h1:Lg.hasD ⟨L,left,false⟩ a∧b.size=128
  ·by_cases h2:left=0
   ·subst h2
    exact dwrite_out L A c a b h1.1 h1.2 _ (by unfold Lg.writeD;rw[if_neg (by simp),if_neg (fun hn=>hn h1),if_pos rfl]) w h
   ·obtain⟨k,rfl⟩:=Int.eq_ofNat_of_zero_le h1.1.1
    have hk:k<L.length:=by have h3:=h1.1.2;simp only at h3;omega
    exact dwrite_on L left h2 hlb A c k b hk h1.2 _ (by unfold Lg.writeD;rw[if_neg (by simp),if_neg (fun hn=>hn h1),if_neg h2];simp) w h
  ·exact dwrite_arg L left A c a b h1 _ (by unfold Lg.writeD;rw[if_neg (by simp),if_pos h1]) w h
theorem make_zeros (n:Nat)(hn:n≤4096)(W:World):(Instr.makeSlice 120 (.int .i64 (n:Int)) (.int .i64 (n:Int))).run Tryz.prog W= .ok (.slice (some ⟨W.heap.size,0,none⟩) n n) (W.alloc (.cells (madeCells #[Value.int .u8 0] n) 5)):=by
 obtain⟨i0,hi,hz0,hz1,hz2⟩:=info_parts info_byte
 have h:=run_make (P:=Tryz.prog) W 120 5 i0 (.int .u8 0) Tryz.underlying120 hi hz0 .i64 .i64 n n (by omega) (by omega) (by rw[hz2];omega) (by omega)
 rw[hz1,Int.toNat_natCast,Nat.mul_one]at h
 exact h
theorem zeros_back (n:Nat)(W:World):(convert 120 9 (.slice (some ⟨W.heap.size,0,none⟩) n n)).run Tryz.prog (W.alloc (.cells (madeCells #[Value.int .u8 0] n) 5))= .ok (.string ⟨(List.replicate n 0).toArray⟩) (W.alloc (.cells (madeCells #[Value.int .u8 0] n) 5)):=by
 have h:=run_convert_bytes_back (P:=Tryz.prog) (W.alloc (.cells (madeCells #[Value.int .u8 0] n) 5)) 120 9 5 ⟨W.heap.size,0,none⟩ n (List.replicate n 0) Tryz.underlying120 Tryz.underlying5 Tryz.underlying9 (fun j hj=>by
  have hj':j<n:=by simpa using hj
  have ha:(⟨W.heap.size,0,none⟩:Addr).add j=⟨W.heap.size,j,none⟩:=by
   unfold Addr.add;split
   ·rename_i h;rw[h]
   ·simp
  rw[ha,World.cell?_alloc_new]
  simp[madeCells,hj',Nat.mod_one])
 rw[List.length_replicate]at h
 exact h
theorem info_string:(Tryz.prog.info? 9).map (fun i=>(i.zero,i.size,i.bytes))=some (some (.string ⟨#[]⟩),1,16):=by kernel_rfl
theorem arm_any (d:Lg.Dk)(A:Option Addr)(c:Nat)(n:Int)(w:World):
 Calls Tryz.prog 28 #[diskV d A c,n] w fun e w'=>e= .returned (diskV (Lg.armD d n) A c)∧Below w.heap.size w w':=by
 obtain⟨L,left,down⟩:=d
 unfold Lg.armD
 dsimp only[diskV]
 by_cases hn:n<0
 ·rw[if_pos hn]
  go_enter Tryz.func28,Tryz.ntmps28
  go_upto_region 1 with fail
  have H0:=nW2 w #[.slice A L.length c,left,down] 29 #["s",(),false] 29
  obtain⟨W0,hW0⟩:=exW H0
  rw[← hW0]at H0 ⊢
  have hc0:=blkCell H0.out.get0
  have hz0:=blkFrozen H0.out.get0
  clear hW0
  go_upto_region 4 with fail
  have H1:=Hq (H0.out.set 0 1 (.int .i64 (-1)) _ rfl)
  have HX1:=Hq (show(W0.setCell ⟨w.heap.size,1,none⟩ (.int .i64 (-1))).heap[w.heap.size]? =some (.cells #[.slice A L.length c,.int .i64 (-1),down] 29 (0,0))from by have h:=H1.out.get0;simpa using h)
  go_wp2_with (first|(with_reducible refine lL HX1.out Tryz.underlying29 ?_)|(with_reducible refine lS #[.slice A L.length c,.int .i64 (-1),down] H1.out.get1 ?_))
  refine bodyPost_ret (v:=.agg #[.slice A L.length c,.int .i64 (-1),down]) (results_cell rfl _ _ rfl (load_whole (setRow_heap _ _ _ _ _ _ H1.out.get1) Tryz.underlying29 Kr Kr)) rfl ?_
  exact⟨rfl,(H1.out.row 1 _ _ rfl).below⟩
 ·rw[if_neg hn]
  go_enter Tryz.func28,Tryz.ntmps28
  go_upto_region 1 with fail
  have H0:=nW2 w #[.slice A L.length c,left,down] 29 #["s",(),false] 29
  obtain⟨W0,hW0⟩:=exW H0
  rw[← hW0]at H0 ⊢
  have hc0:=blkCell H0.out.get0
  have hz0:=blkFrozen H0.out.get0
  clear hW0
  go_upto_region 4 with fail
  have H1:=Hq (H0.out.set 0 1 (.int .i64 n) _ rfl)
  have HX1:=Hq (show(W0.setCell ⟨w.heap.size,1,none⟩ (.int .i64 n)).heap[w.heap.size]? =some (.cells #[.slice A L.length c,n,down] 29 (0,0))from by have h:=H1.out.get0;simpa using h)
  go_wp2_with (first|(with_reducible refine lL HX1.out Tryz.underlying29 ?_)|(with_reducible refine lS #[.slice A L.length c,n,down] H1.out.get1 ?_))
  refine bodyPost_ret (v:=.agg #[.slice A L.length c,n,down]) (results_cell rfl _ _ rfl (load_whole (setRow_heap _ _ _ _ _ _ H1.out.get1) Tryz.underlying29 Kr Kr)) rfl ?_
  exact⟨rfl,(H1.out.row 1 _ _ rfl).below⟩
end Go.Proofs.YtilakddepaplhaaGreat
namespace Lg
theorem repeat_zero (n:Nat):(⟨(Go.Lib.repeatL [(0:UInt8)] n).toArray⟩:ByteArray)=⟨(List.replicate n 0).toArray⟩:=by
 congr 2
 induction n with
 |zero=>rfl
 |succ n ih=>
  rw[List.replicate_succ,← ih]
  rfl
theorem pad_join (t:ByteArray)(m:Nat)(hm:m=min t.size 128):t.extract 0 m++(⟨(Go.Lib.repeatL [(0:UInt8)] (128-m)).toArray⟩:ByteArray)=pad128 (t.data.toList.take 128):=by
 rw[repeat_zero]
 unfold pad128
 apply ByteArray.ext
 rw[ByteArray.data_append]
 apply Array.toList_inj.1
 rw[Array.toList_append]
 have e:(t.extract 0 m).data.toList=t.data.toList.take 128:=by
  simp only[ByteArray.data_extract,Array.toList_extract,List.extract_eq_take_drop,Nat.sub_zero,List.drop_zero]
  have hl:t.data.toList.length=t.size:=by simp
  by_cases h:t.size≤128
  ·rw[List.take_of_length_le (by omega),List.take_of_length_le (by omega)]
  ·rw[show m=128 by omega]
 have hl:(t.data.toList.take 128).length=m:=by rw[List.length_take];simp;omega
 rw[e,hl]
theorem cut_next (t:ByteArray)(m:Nat)(hm:m=min t.size 128)(h0:0<t.size):cutB t=pad128 (t.data.toList.take 128)::cutB (t.extract m t.size):=by
 unfold cutB
 have h1:t.data.toList≠[]:=fun e=>by
  have hl:t.data.toList.length=t.size:=by simp
  rw[e,List.length_nil]at hl
  omega
 rw[cutW_cons h1]
 congr 2
 simp only[ByteArray.data_extract,Array.toList_extract,List.extract_eq_take_drop]
 have hl:t.data.toList.length=t.size:=by simp
 rw[List.take_of_length_le (by rw[List.length_drop];omega)]
 by_cases h:t.size≤128
 ·rw[List.drop_of_length_le (i:=128) (by omega),List.drop_of_length_le (i:=m) (by omega)]
 ·rw[show m=128 by omega]
theorem cut_none (t:ByteArray)(h0:t.size=0):cutB t=[]:=by
 unfold cutB
 have h1:t.data.toList=[]:=List.eq_nil_of_length_eq_zero (by simpa using h0)
 rw[h1,cutW_nil]
end Lg
namespace Go.Proofs.YtilakddepaplhaaGreat
open Go.RowKit
abbrev logV (l:Lg.Lo):Value:=.agg #[l.from_,l.n,l.end_,l.safe,l.tail]
theorem lnew_any (a n:Int)(w:World):
 Calls Tryz.prog 24 #[a,n] w fun e w'=>e= .returned (logV ⟨a,n,0,0,⟨#[]⟩⟩)∧Below w.heap.size w w':=by
 have HZ:=Hq (heap_alloc_new w (.cells #[(),(),(),(),""] 31))
 go_enter Tryz.func24,Tryz.ntmps24
 go_wp2_with (with_reducible refine lS #[a,n,(),(),""] HZ.out ?_)
 refine bodyPost_ret (v:=.agg #[a,n,(),(),""]) (results_cell rfl _ _ rfl (load_whole (setRow_heap _ _ _ _ _ _ HZ.out) Tryz.underlying31 Kr Kr)) rfl ?_
 exact⟨rfl,((BxL.nil (Below.refl w.heap.size w)).new (by simp) #[(),(),(),(),""] 31).row 0 _ _ rfl|>.below⟩
def CutOut (l:List ByteArray)(w:World)(e:Ending)(w':World):Prop:=∃ v,e= .returned v∧OwnL strC 1 9 w.heap.size w' v l∧Below w.heap.size w w'
theorem cut_any (s:ByteArray)(hs:s.size≤1000000)(w:World):
 Calls Tryz.prog 68 #[s] w (CutOut (Lg.cutB s) w):=by
 have HF:=Hq (fun v w' (ho:OwnL strC 1 9 w.heap.size w' v (Lg.cutB s)) (hb:Below w.heap.size w w')=>show CutOut (Lg.cutB s) w (.returned v) w' from⟨v,rfl,ho,hb⟩)
 generalize CutOut (Lg.cutB s) w=Q at HF ⊢
 obtain⟨C,hC⟩:=ex (Lg.cutB s)
 have hcl:C.length≤8000:=by rw[hC,Lg.cutB_length];omega
 rw[← hC]at HF
 have HC:=Hq hC
 have HR:=Hq (fun(c:Nat) (hc:c≤128) W=>Tryz.strings_Repeat ⟨#[0]⟩ c W (by omega) (show(⟨#[0]⟩:ByteArray).size*c≤140737488355328 from(by show 1*c≤_;have:c≤128:=hc;omega)))
 clear hC
 go_enter Tryz.func68,Tryz.ntmps68
 go_wp2_with fail
 go_loopw [0,3] (fun s0 v wr=>∃ (t:ByteArray) (ls:List ByteArray),s0= .string t∧t.size≤1000000∧ls++Lg.cutB t=C∧OwnL strC 1 9 w.heap.size wr v ls∧Below w.heap.size w wr) (fun s0 _ _=>(match s0 with| .string t=>t.size|_=>0))
 case atStart=>exact⟨s,[],rfl,hs,HC.out.symm,ownNil _ _ _ _,Below.refl _ _⟩
 case round=>
  obtain⟨t,ls,rfl,hts,hC2,hO,hB⟩:=hrel
  have HB:=Hq hB
  have hll:ls.length≤8000:=by have:=congrArg List.length hC2;rw[List.length_append]at this;omega
  have HC2:=Hq hC2
  clear hB hC2
  by_cases h0:0<t.size
  ·obtain⟨m,hm⟩:=ex (min t.size 128)
   have hmm:min (t.size:Int) 128=(m:Int):=by omega
   have hm1:m≤t.size:=by omega
   have hm2:m≤128:=by omega
   have hm3:(0:Int)≤(m:Int):=by omega
   have hm4:(m:Int)≤(t.size:Int):=by omega
   have hsub:(128:Int)-(m:Int)=((128-m:Nat):Int):=by omega
   have hwr:IntKind.i64.wrap ((128:Int)-(m:Int))=((128-m:Nat):Int):=by rw[hsub];exact IntWalk.i64_in _ (by omega)
   have hwr2:IntKind.i64.wrap ((128-m:Nat):Int)=((128-m:Nat):Int):=IntWalk.i64_in _ (by omega)
   have HJ:=Hq (Lg.pad_join t m hm)
   have HN:=Hq (Lg.cut_next t m hm h0)
   have hpz:=Lg.pad128_size (l:=t.data.toList.take 128) (by rw[List.length_take];omega)
   have hxs:(t.extract m t.size).size<t.size:=by rw[ByteArray.size_extract];omega
   have HXS:=Hq hxs
   have hR:=HR.out (128-m) (show 128-m≤128 by omega)
   have hsum:(t.extract 0 m).size+(⟨(Lib.repeatL [(0:UInt8)] (128-m)).toArray⟩:ByteArray).size≤9223372036854775807:=by
    rw[Lg.repeat_zero,ByteArray.size_extract]
    show _+(List.replicate (128-m) (0:UInt8)).toArray.size≤_
    simp
    omega
   have HRR:=Hq hR
   obtain⟨z,hz⟩:=ex (⟨(Lib.repeatL [(0:UInt8)] (128-m)).toArray⟩:ByteArray)
   obtain⟨y,hy⟩:=ex (Lg.pad128 (t.data.toList.take 128):ByteArray)
   have HRZ:Hid (∀ W,Calls Tryz.prog 50 #[.string ⟨#[0]⟩,.int .i64 ((128-m:Nat):Int)] W fun e w'=>e= .returned (.string z)∧Below W.heap.size W w'):=Hq (by rw[hz];exact hR)
   rw[← hz]at HJ hsum
   rw[← hy]at HJ HN hpz
   have hadd:∀ W:World,(Op.stringOp .add (t.extract 0 m) z).run Tryz.prog W= .ok (.string y) W:=fun W=>by rw[← HJ.out];exact run_string_add_sum W _ _ hsum
   obtain⟨r,hr⟩:=ex (128-m:Nat)
   rw[← hr]at hsub hwr hwr2 HRZ
   clear hR HR HRR hm hz hy hxs hr hsum
   obtain⟨A,c,rfl⟩:=ownLen hO
   go_upto_region 4 with fail
   have hO0:=ownBelow hO (Below.refl _ wr).drew
   have hB0:=HB.out.drew
   refine rgH (S:=(fun _=>True)) (fun hHeld=>?_) (by trivial)
   refine tkP 0 ?_;refine tkP 1 ?_;refine tkP 2 ?_;refine tkP 3 ?_;refine tkP 4 ?_;refine tkP 5 ?_
   refine rdP 6 fun K hK=>?_
   go_simp
   refine(HRZ.out _).mono ?_;rintro e w1 ⟨rfl,hb1⟩;have hO1:=ownBelow hO0 hb1;have hB1:=hB0.trans (hb1.mono hB0.size);try go_simp
   refine hKo hK (fun hHeld=>?_) (by trivial)
   clear hK K
   refine tkP 7 ?_
   refine rdP 8 fun K hK=>?_
   go_simp
   have hO2:=ownBelow hO1 (allocB w1 (.cells #[y] 9));have hB2:=hB1.alloc hB1.size (.cells #[y] 9);have hG:=heap_alloc_new w1 (.cells #[y] 9)
   refine hKo hK (fun hHeld=>?_) (by trivial)
   clear hK K
   refine rdP 9 fun K hK=>?_
   refine wantedIf (by rfl) ?_
   refine wp_push _ (.tmp 11) (.tmp 19) 27 9 Tryz.underlying27 info_string rfl (by omega) (by omega) rfl w.heap.size _ ls.length (ls.flatMap strC) rfl hO2 w1.heap.size (strC y) 9 rfl hG rfl (by simp[strC,Value.oneCell']) (by omega) hB2.size ?_
   intro v7 w7 ho hg hb
   have hB7:=hB2.trans hb
   refine hKo hK (fun hHeld=>?_) (by trivial)
   clear hK K
   refine tkP 10 ?_
   refine wpAnyH_done Kr ?_ _
   have HO7:=Hq (OwnL.push (enc:=strC) (x:=y) ho)
   have HB7:=Hq hB7
   clear hO hO0 hO1 hO2 hB0 hB1 hB2 hB7 ho hg hb hG hHeld HB hadd hpz
   go_wp2_with fail
   go_roundw
   case rel=>exact⟨_,ls++[y],rfl,by have:=HXS.out;omega,by rw[List.append_assoc];have h:=HC2.out;rw[HN.out]at h;exact h,HO7.out,HB7.out⟩
   case measure=>exact HXS.out
  ·have h00:t.size=0:=by omega
   have hfin:ls=C:=by have h:=HC2.out;rwa[Lg.cut_none t h00,List.append_nil]at h
   subst hfin
   go_wp2_with fail
   exact HF.out _ _ hO HB.out
theorem open4_any (s:ByteArray)(h4:4≤s.size)(hm:s.size≤1000000000)(n:Nat)(hn:Oct.getN s.data.toList 0 4=n)(hn2:Oct.intOf n=(n:Int))(w:World):
 Calls Tryz.prog 37 #[s] w fun e w'=>e= .returned (if n=Oct.sumN (s.data.toList.drop 4)then .tuple #[.string (s.extract 4 s.size),true]else .tuple #["",false])∧Below w.heap.size w w':=by
 have HG:=Hq (fun W=>get_yes s 0 4 (by omega) (by omega) (by omega) (by omega) W)
 rw[hn,hn2]at HG
 have hxs:(s.extract 4 s.size).data.toList=s.data.toList.drop 4:=by
  simp only[ByteArray.data_extract,Array.toList_extract,List.extract_eq_take_drop]
  exact List.take_of_length_le (by simp)
 have hxz:(s.extract 4 s.size).size≤281474976710656:=by rw[ByteArray.size_extract];omega
 have HS:=Hq (fun W=>sum_any (s.extract 4 s.size) hxz W)
 rw[hxs]at HS
 generalize Oct.sumN (s.data.toList.drop 4)=m at HS ⊢
 have h4':(4:Int)≤(s.size:Int):=by omega
 have h4n:¬ s.size<4:=by omega
 clear hn hn2 hxs hxz
 by_cases he:n=m
 ·subst he
  rw[if_pos rfl]
  go_enter Tryz.func37,Tryz.ntmps37
  go_wp2_with (first|(go_at_call 38;refine(HG.out _).mono ?_;rintro e w1 ⟨rfl,hb1⟩)|(go_at_call 77;refine(HS.out _).mono ?_;rintro e w2 ⟨rfl,rfl⟩))
  go_ret2
  exact⟨rfl,hb1⟩
 ·rw[if_neg he]
  have hne:((n:Int)==(m:Int))=false:=by simp;omega
  have hne2:(n==m)=false:=by simpa using he
  have hne3:((n:Int) != (m:Int))=true:=by simp;omega
  have hne4:(n != m)=true:=by simpa using he
  go_enter Tryz.func37,Tryz.ntmps37
  go_wp2_with (first|(go_at_call 38;refine(HG.out _).mono ?_;rintro e w1 ⟨rfl,hb1⟩)|(go_at_call 77;refine(HS.out _).mono ?_;rintro e w2 ⟨rfl,rfl⟩))
  go_ret2
  exact⟨rfl,hb1⟩
theorem getN_small (s:List UInt8)(a k:Nat):Oct.getN s a k<256^k:=by
 have h1:=Oct.getL_lt ((s.drop a).take k)
 have h2:256^((s.drop a).take k).length≤256^k:=Nat.pow_le_pow_right (by omega) (by rw[List.length_take];omega)
 unfold Oct.getN;omega
theorem getText_any (s:ByteArray)(a:Nat)(hm:s.size≤1000000000)(ha:a≤2000000000)(w:World):
 Calls Tryz.prog 178 #[s,.int .i64 (a:Int)] w fun e w'=>e= .returned (if a+2+Oct.getN s.data.toList a 2≤s.size then .tuple #[.string (s.extract (a+2) (a+2+Oct.getN s.data.toList a 2)),.int .i64 ((a+2+Oct.getN s.data.toList a 2:Nat):Int),true]else .tuple #["",(),false])∧Below w.heap.size w w':=by
 by_cases hin:a+2≤s.size
 ·have hpow:=getN_small s.data.toList a 2
  have HG:=Hq (fun W=>get_yes s a 2 (by omega) (by omega) hin (by omega) W)
  generalize Oct.getN s.data.toList a 2=n at hpow HG ⊢
  have hn:n<65536:=by simpa using hpow
  rw[show Oct.intOf n=(n:Int)from by unfold Oct.intOf;rw[if_pos (by omega)]]at HG
  clear hpow
  by_cases he:a+2+n≤s.size
  ·rw[if_pos he]
   have t1:¬ ((s.size:Int)-(a:Int)-2<(n:Int)):=by omega
   have w1:IntKind.i64.wrap ((s.size:Int)-(a:Int))=(s.size:Int)-(a:Int):=IntWalk.i64_in _ (by omega)
   have w2:IntKind.i64.wrap ((s.size:Int)-(a:Int)-2)=(s.size:Int)-(a:Int)-2:=IntWalk.i64_in _ (by omega)
   have w3:IntKind.i64.wrap ((a:Int)+2)=(a:Int)+2:=IntWalk.i64_in _ (by omega)
   have w4:IntKind.i64.wrap ((a:Int)+2+(n:Int))=(a:Int)+2+(n:Int):=IntWalk.i64_in _ (by omega)
   have g1:(0:Int)≤(a:Int)+2:=by omega
   have g2:(a:Int)+2≤(a:Int)+2+(n:Int):=by omega
   have g3:(a:Int)+2+(n:Int)≤(s.size:Int):=by omega
   have n1:((a:Int)+2).toNat=a+2:=by omega
   have n2:((a:Int)+2+(n:Int)).toNat=a+2+n:=by omega
   go_enter Tryz.func178,Tryz.ntmps178
   go_wp2_with ((go_at_call 38;refine(HG.out _).mono ?_;rintro e w1 ⟨rfl,hb1⟩))
   refine bodyPost_ret (v:=.tuple #[.string (s.extract (a+2) (a+2+n)),.int .i64 ((a+2+n:Nat):Int),true]) (by simp[results,Tryz.results178,go_sem]) rfl ⟨rfl,by assumption⟩
  ·rw[if_neg he]
   have t1:((s.size:Int)-(a:Int)-2<(n:Int)):=by omega
   have w1:IntKind.i64.wrap ((s.size:Int)-(a:Int))=(s.size:Int)-(a:Int):=IntWalk.i64_in _ (by omega)
   have w2:IntKind.i64.wrap ((s.size:Int)-(a:Int)-2)=(s.size:Int)-(a:Int)-2:=IntWalk.i64_in _ (by omega)
   go_enter Tryz.func178,Tryz.ntmps178
   go_wp2_with ((go_at_call 38;refine(HG.out _).mono ?_;rintro e w1 ⟨rfl,hb1⟩))
   refine bodyPost_ret (v:=.tuple #["",(),false]) (by simp[results,Tryz.results178,go_sem]) rfl ⟨rfl,by assumption⟩
 ·rw[if_neg (by omega)]
  have HG:=Hq (fun W=>get_no s a 2 (by omega) (by omega) (by omega) (by unfold Oct.there;simp;omega) W)
  go_enter Tryz.func178,Tryz.ntmps178
  go_wp2_with ((go_at_call 38;refine(HG.out _).mono ?_;rintro e w1 ⟨rfl,rfl⟩))
  refine bodyPost_ret (v:=.tuple #["",(),false]) (by simp[results,Tryz.results178,go_sem]) rfl ⟨rfl,Below.refl _ _⟩
abbrev rdC (s:ByteArray)(a:Nat)(bad:Bool):Array Value:=#[s,.int .i64 (a:Int),bad]
theorem rnum_tf (b:Nat)(s:ByteArray)(a k:Nat)(h1:1≤k)(h6:k≤6)(hm:s.size≤1000000000)(ha:a≤2000000000)(hin:a+k≤s.size)(w:World)(hb:w.heap[b]? =some (.cells (rdC s a false) 133 (0,0))):
 Calls Tryz.prog 116 #[.pointer (some ⟨b,0,none⟩),.int .i64 (k:Int)] w fun e w'=>e= .returned (.int .i64 (Oct.intOf (Oct.getN s.data.toList a k)))∧w'.heap[b]? =some (.cells (rdC s (a+k) false) 133 (0,0))∧KeptB w.heap.size b w w':=by
 have HG:=Hq (fun W=>get_yes s a k h1 (by omega) hin (by omega) W)
 have HB:=Hq hb
 have w1':IntKind.i64.wrap ((a:Int)+(k:Int))=(a:Int)+(k:Int):=IntWalk.i64_in _ (by omega)
 clear hb hin
 generalize Oct.intOf (Oct.getN s.data.toList a k)=n at HG ⊢
 go_enter Tryz.func116,Tryz.ntmps116
 go_upto_region 1 with fail
 refine rgH (S:=(fun u=>u.heap[b]? =some (.cells (rdC s a false) 133 (0,0)))) (fun hHeld=>?_) (by first|exact hSn|exact HB.out)
 refine tkP 0 ?_;refine tkP 1 ?_;refine tkP 2 ?_;refine tkP 3 ?_;refine tkP 4 ?_;refine tkP 5 ?_;refine tkP 6 ?_;refine tkP 7 ?_;refine tkP 8 ?_
 refine rdP 9 fun K hK=>?_
 go_simp
 refine(HG.out _).mono ?_;rintro e w1 ⟨rfl,hb1⟩;have hSn:=blkOld HB.out ((Below.refl _ w).drew.trans hb1);try go_simp
 refine hKo hK (fun hHeld=>?_) (by first|exact hSn|exact HB.out)
 clear hK K
 refine tkP 10 ?_;refine tkP 11 ?_;refine tkP 12 ?_;refine tkP 13 ?_;refine tkP 14 ?_
 refine wpAnyH_done Kr ?_ _
 have H1:=Hq hHeld
 have HK:=Hq (show Below w.heap.size w w1 from(Below.refl _ w).drew.trans hb1)
 clear hHeld hSn hb1
 have c0:=blkCell H1.out 0
 have c1:=blkCell H1.out 1
 have c2:=blkCell H1.out 2
 have f1:=blkFrozen H1.out 1
 have f2:=blkFrozen H1.out 2
 simp at c0 c1 c2
 go_wp2_with fail
 go_ret
 refine⟨rfl,?_,?_⟩
 ·have h:=blkSet 2 (blkSet 1 H1.out (.int .i64 ((a:Int)+(k:Int)))) (.bool false)
  first|exact h|simpa using h
 ·refine⟨HK.out.os,HK.out.tape,HK.out.output,by have:=HK.out.size;simpa[World.setCell]using this,fun i hi hib=>?_⟩
  rw[Below.heap_setCell _ _ _ _ hib,Below.heap_setCell _ _ _ _ hib]
  exact HK.out.block i hi
theorem rnum_tt (b:Nat)(s:ByteArray)(a k:Nat)(h1:1≤k)(h6:k≤6)(hm:s.size≤1000000000)(ha:a≤2000000000)(hin:a+k≤s.size)(w:World)(hb:w.heap[b]? =some (.cells (rdC s a true) 133 (0,0))):
 Calls Tryz.prog 116 #[.pointer (some ⟨b,0,none⟩),.int .i64 (k:Int)] w fun e w'=>e= .returned (.int .i64 (Oct.intOf (Oct.getN s.data.toList a k)))∧w'.heap[b]? =some (.cells (rdC s (a+k) true) 133 (0,0))∧KeptB w.heap.size b w w':=by
 have HG:=Hq (fun W=>get_yes s a k h1 (by omega) hin (by omega) W)
 have HB:=Hq hb
 have w1':IntKind.i64.wrap ((a:Int)+(k:Int))=(a:Int)+(k:Int):=IntWalk.i64_in _ (by omega)
 clear hb hin
 generalize Oct.intOf (Oct.getN s.data.toList a k)=n at HG ⊢
 go_enter Tryz.func116,Tryz.ntmps116
 go_upto_region 1 with fail
 refine rgH (S:=(fun u=>u.heap[b]? =some (.cells (rdC s a true) 133 (0,0)))) (fun hHeld=>?_) (by first|exact hSn|exact HB.out)
 refine tkP 0 ?_;refine tkP 1 ?_;refine tkP 2 ?_;refine tkP 3 ?_;refine tkP 4 ?_;refine tkP 5 ?_;refine tkP 6 ?_;refine tkP 7 ?_;refine tkP 8 ?_
 refine rdP 9 fun K hK=>?_
 go_simp
 refine(HG.out _).mono ?_;rintro e w1 ⟨rfl,hb1⟩;have hSn:=blkOld HB.out ((Below.refl _ w).drew.trans hb1);try go_simp
 refine hKo hK (fun hHeld=>?_) (by first|exact hSn|exact HB.out)
 clear hK K
 refine tkP 10 ?_;refine tkP 11 ?_;refine tkP 12 ?_;refine tkP 13 ?_;refine tkP 14 ?_
 refine wpAnyH_done Kr ?_ _
 have H1:=Hq hHeld
 have HK:=Hq (show Below w.heap.size w w1 from(Below.refl _ w).drew.trans hb1)
 clear hHeld hSn hb1
 have c0:=blkCell H1.out 0
 have c1:=blkCell H1.out 1
 have c2:=blkCell H1.out 2
 have f1:=blkFrozen H1.out 1
 have f2:=blkFrozen H1.out 2
 simp at c0 c1 c2
 go_wp2_with fail
 go_ret
 refine⟨rfl,?_,?_⟩
 ·have h:=blkSet 2 (blkSet 1 H1.out (.int .i64 ((a:Int)+(k:Int)))) (.bool true)
  first|exact h|simpa using h
 ·refine⟨HK.out.os,HK.out.tape,HK.out.output,by have:=HK.out.size;simpa[World.setCell]using this,fun i hi hib=>?_⟩
  rw[Below.heap_setCell _ _ _ _ hib,Below.heap_setCell _ _ _ _ hib]
  exact HK.out.block i hi
theorem rnum_ff (b:Nat)(s:ByteArray)(a k:Nat)(h1:1≤k)(h6:k≤6)(hm:s.size≤1000000000)(ha:a≤2000000000)(hin:¬ a+k≤s.size)(w:World)(hb:w.heap[b]? =some (.cells (rdC s a false) 133 (0,0))):
 Calls Tryz.prog 116 #[.pointer (some ⟨b,0,none⟩),.int .i64 (k:Int)] w fun e w'=>e= .returned (.int .i64 (0))∧w'.heap[b]? =some (.cells (rdC s (a+k) true) 133 (0,0))∧KeptB w.heap.size b w w':=by
 have HG:=Hq (fun W=>get_no s a k (by omega) (by omega) (by omega) (by unfold Oct.there;simp;omega) W)
 have HB:=Hq hb
 have w1':IntKind.i64.wrap ((a:Int)+(k:Int))=(a:Int)+(k:Int):=IntWalk.i64_in _ (by omega)
 clear hb hin
 go_enter Tryz.func116,Tryz.ntmps116
 go_upto_region 1 with fail
 refine rgH (S:=(fun u=>u.heap[b]? =some (.cells (rdC s a false) 133 (0,0)))) (fun hHeld=>?_) (by first|exact hSn|exact HB.out)
 refine tkP 0 ?_;refine tkP 1 ?_;refine tkP 2 ?_;refine tkP 3 ?_;refine tkP 4 ?_;refine tkP 5 ?_;refine tkP 6 ?_;refine tkP 7 ?_;refine tkP 8 ?_
 refine rdP 9 fun K hK=>?_
 go_simp
 refine(HG.out _).mono ?_;rintro e w1 ⟨rfl,hw1⟩;have hb1:Below w.drew.heap.size w.drew w1:=(by rw[← hw1];exact Below.refl _ _);have hSn:=blkOld HB.out ((Below.refl _ w).drew.trans hb1);try go_simp
 refine hKo hK (fun hHeld=>?_) (by first|exact hSn|exact HB.out)
 clear hK K
 refine tkP 10 ?_;refine tkP 11 ?_;refine tkP 12 ?_;refine tkP 13 ?_;refine tkP 14 ?_
 refine wpAnyH_done Kr ?_ _
 have H1:=Hq hHeld
 have HK:=Hq (show Below w.heap.size w w1 from(Below.refl _ w).drew.trans hb1)
 clear hHeld hSn hb1
 have c0:=blkCell H1.out 0
 have c1:=blkCell H1.out 1
 have c2:=blkCell H1.out 2
 have f1:=blkFrozen H1.out 1
 have f2:=blkFrozen H1.out 2
 simp at c0 c1 c2
 go_wp2_with fail
 go_ret
 refine⟨rfl,?_,?_⟩
 ·have h:=blkSet 2 (blkSet 1 H1.out (.int .i64 ((a:Int)+(k:Int)))) (.bool true)
  first|exact h|simpa using h
 ·refine⟨HK.out.os,HK.out.tape,HK.out.output,by have:=HK.out.size;simpa[World.setCell]using this,fun i hi hib=>?_⟩
  rw[Below.heap_setCell _ _ _ _ hib,Below.heap_setCell _ _ _ _ hib]
  exact HK.out.block i hi
theorem rnum_ft (b:Nat)(s:ByteArray)(a k:Nat)(h1:1≤k)(h6:k≤6)(hm:s.size≤1000000000)(ha:a≤2000000000)(hin:¬ a+k≤s.size)(w:World)(hb:w.heap[b]? =some (.cells (rdC s a true) 133 (0,0))):
 Calls Tryz.prog 116 #[.pointer (some ⟨b,0,none⟩),.int .i64 (k:Int)] w fun e w'=>e= .returned (.int .i64 (0))∧w'.heap[b]? =some (.cells (rdC s (a+k) true) 133 (0,0))∧KeptB w.heap.size b w w':=by
 have HG:=Hq (fun W=>get_no s a k (by omega) (by omega) (by omega) (by unfold Oct.there;simp;omega) W)
 have HB:=Hq hb
 have w1':IntKind.i64.wrap ((a:Int)+(k:Int))=(a:Int)+(k:Int):=IntWalk.i64_in _ (by omega)
 clear hb hin
 go_enter Tryz.func116,Tryz.ntmps116
 go_upto_region 1 with fail
 refine rgH (S:=(fun u=>u.heap[b]? =some (.cells (rdC s a true) 133 (0,0)))) (fun hHeld=>?_) (by first|exact hSn|exact HB.out)
 refine tkP 0 ?_;refine tkP 1 ?_;refine tkP 2 ?_;refine tkP 3 ?_;refine tkP 4 ?_;refine tkP 5 ?_;refine tkP 6 ?_;refine tkP 7 ?_;refine tkP 8 ?_
 refine rdP 9 fun K hK=>?_
 go_simp
 refine(HG.out _).mono ?_;rintro e w1 ⟨rfl,hw1⟩;have hb1:Below w.drew.heap.size w.drew w1:=(by rw[← hw1];exact Below.refl _ _);have hSn:=blkOld HB.out ((Below.refl _ w).drew.trans hb1);try go_simp
 refine hKo hK (fun hHeld=>?_) (by first|exact hSn|exact HB.out)
 clear hK K
 refine tkP 10 ?_;refine tkP 11 ?_;refine tkP 12 ?_;refine tkP 13 ?_;refine tkP 14 ?_
 refine wpAnyH_done Kr ?_ _
 have H1:=Hq hHeld
 have HK:=Hq (show Below w.heap.size w w1 from(Below.refl _ w).drew.trans hb1)
 clear hHeld hSn hb1
 have c0:=blkCell H1.out 0
 have c1:=blkCell H1.out 1
 have c2:=blkCell H1.out 2
 have f1:=blkFrozen H1.out 1
 have f2:=blkFrozen H1.out 2
 simp at c0 c1 c2
 go_wp2_with fail
 go_ret
 refine⟨rfl,?_,?_⟩
 ·have h:=blkSet 2 (blkSet 1 H1.out (.int .i64 ((a:Int)+(k:Int)))) (.bool true)
  first|exact h|simpa using h
 ·refine⟨HK.out.os,HK.out.tape,HK.out.output,by have:=HK.out.size;simpa[World.setCell]using this,fun i hi hib=>?_⟩
  rw[Below.heap_setCell _ _ _ _ hib,Below.heap_setCell _ _ _ _ hib]
  exact HK.out.block i hi
theorem rnum_any (b:Nat)(s:ByteArray)(x:Rc.St)(k:Nat)(h1:1≤k)(h6:k≤6)(hm:s.size≤1000000000)(ha:x.at_≤2000000000)(w:World)(hb:w.heap[b]? =some (.cells (rdC s x.at_ x.bad) 133 (0,0))):
 Calls Tryz.prog 116 #[.pointer (some ⟨b,0,none⟩),.int .i64 (k:Int)] w fun e w'=>e= .returned (.int .i64 (Rc.numM true s.data.toList x k).1)∧w'.heap[b]? =some (.cells (rdC s (Rc.numM true s.data.toList x k).2.at_ (Rc.numM true s.data.toList x k).2.bad) 133 (0,0))∧KeptB w.heap.size b w w':=by
 obtain⟨a,bad⟩:=x
 have hl:s.data.toList.length=s.size:=by simp
 by_cases hin:a+k≤s.size
 ·have hp:=getN_small s.data.toList a k
  have h2:256^k≤256^6:=Nat.pow_le_pow_right (by omega) h6
  have h3:Oct.getN s.data.toList a k<281474976710656:=Nat.lt_of_lt_of_le hp h2
  have hi:Oct.intOf (Oct.getN s.data.toList a k)=((Oct.getN s.data.toList a k:Nat):Int):=by unfold Oct.intOf;rw[if_pos (by omega)]
  have hN:Rc.numM true s.data.toList ⟨a,bad⟩ k=(((Oct.getN s.data.toList a k:Nat):Int),(⟨a+k,bad⟩:Rc.St)):=by unfold Rc.numM;rw[if_pos (by show a+k≤_;omega)]
  rw[hN,← hi]
  cases bad with
  |false=>exact rnum_tf b s a k h1 h6 hm ha hin w hb
  |true=>exact rnum_tt b s a k h1 h6 hm ha hin w hb
 ·have hN:Rc.numM true s.data.toList ⟨a,bad⟩ k=((0:Int),(⟨a+k,true⟩:Rc.St)):=by unfold Rc.numM;rw[if_neg (by show ¬ a+k≤_;omega)];rfl
  rw[hN]
  cases bad with
  |false=>exact rnum_ff b s a k h1 h6 hm ha hin w hb
  |true=>exact rnum_ft b s a k h1 h6 hm ha hin w hb
theorem extract_list (s:ByteArray)(a n:Nat):s.extract a (a+n)=⟨((s.data.toList.drop a).take n).toArray⟩:=by
 apply ByteArray.ext
 rw[ByteArray.data_extract]
 apply Array.toList_inj.1
 rw[Array.toList_extract,List.extract_eq_take_drop]
 simp
theorem rtext_t (b:Nat)(s:ByteArray)(a:Nat)(bad:Bool)(x:ByteArray)(q:Nat)(hg:∀ W,Calls Tryz.prog 178 #[s,.int .i64 (a:Int)] W fun e w'=>e= .returned (.tuple #[x,.int .i64 (q:Int),true])∧Below W.heap.size W w')(w:World)(hb:w.heap[b]? =some (.cells (rdC s a bad) 133 (0,0))):
 Calls Tryz.prog 118 #[.pointer (some ⟨b,0,none⟩)] w fun e w'=>e= .returned (.string x)∧w'.heap[b]? =some (.cells (rdC s q bad) 133 (0,0))∧KeptB w.heap.size b w w':=by
 have HG:=Hq hg
 have HB:=Hq hb
 clear hb hg
 go_enter Tryz.func118,Tryz.ntmps118
 go_upto_region 1 with fail
 refine rgH (S:=(fun u=>u.heap[b]? =some (.cells (rdC s a bad) 133 (0,0)))) (fun hHeld=>?_) (by first|exact hSn|exact HB.out)
 refine tkP 0 ?_;refine tkP 1 ?_;refine tkP 2 ?_;refine tkP 3 ?_;refine tkP 4 ?_;refine tkP 5 ?_;refine tkP 6 ?_;refine tkP 7 ?_
 refine rdP 8 fun K hK=>?_
 go_simp
 refine(HG.out _).mono ?_;rintro e w1 ⟨rfl,hb1⟩;have hSn:=blkOld HB.out ((Below.refl _ w).drew.trans hb1);try go_simp
 refine hKo hK (fun hHeld=>?_) (by first|exact hSn|exact HB.out)
 clear hK K
 refine tkP 9 ?_;refine tkP 10 ?_;refine tkP 11 ?_;refine tkP 12 ?_;refine tkP 13 ?_;refine tkP 14 ?_;refine tkP 15 ?_
 refine wpAnyH_done Kr ?_ _
 have H1:=Hq hHeld
 have HK:=Hq (show Below w.heap.size w w1 from(Below.refl _ w).drew.trans hb1)
 clear hHeld hSn hb1
 have c0:=blkCell H1.out 0
 have c1:=blkCell H1.out 1
 have c2:=blkCell H1.out 2
 have f1:=blkFrozen H1.out 1
 have f2:=blkFrozen H1.out 2
 simp at c0 c1 c2
 go_wp2_with fail
 go_ret
 refine⟨rfl,?_,?_⟩
 ·have h:=blkSet 1 H1.out (.int .i64 (q:Int))
  first|exact h|simpa using h
 ·refine⟨HK.out.os,HK.out.tape,HK.out.output,by have:=HK.out.size;simpa[World.setCell]using this,fun i hi hib=>?_⟩
  rw[Below.heap_setCell _ _ _ _ hib]
  exact HK.out.block i hi
theorem rtext_f (b:Nat)(s:ByteArray)(a:Nat)(bad:Bool)(hg:∀ W,Calls Tryz.prog 178 #[s,.int .i64 (a:Int)] W fun e w'=>e= .returned (.tuple #["",(),false])∧Below W.heap.size W w')(w:World)(hb:w.heap[b]? =some (.cells (rdC s a bad) 133 (0,0))):
 Calls Tryz.prog 118 #[.pointer (some ⟨b,0,none⟩)] w fun e w'=>e= .returned (.string ⟨#[]⟩)∧w'.heap[b]? =some (.cells (rdC s a true) 133 (0,0))∧KeptB w.heap.size b w w':=by
 have HG:=Hq hg
 have HB:=Hq hb
 clear hb hg
 go_enter Tryz.func118,Tryz.ntmps118
 go_upto_region 1 with fail
 refine rgH (S:=(fun u=>u.heap[b]? =some (.cells (rdC s a bad) 133 (0,0)))) (fun hHeld=>?_) (by first|exact hSn|exact HB.out)
 refine tkP 0 ?_;refine tkP 1 ?_;refine tkP 2 ?_;refine tkP 3 ?_;refine tkP 4 ?_;refine tkP 5 ?_;refine tkP 6 ?_;refine tkP 7 ?_
 refine rdP 8 fun K hK=>?_
 go_simp
 refine(HG.out _).mono ?_;rintro e w1 ⟨rfl,hb1⟩;have hSn:=blkOld HB.out ((Below.refl _ w).drew.trans hb1);try go_simp
 refine hKo hK (fun hHeld=>?_) (by first|exact hSn|exact HB.out)
 clear hK K
 refine tkP 9 ?_;refine tkP 10 ?_;refine tkP 11 ?_;refine tkP 12 ?_;refine tkP 13 ?_;refine tkP 14 ?_;refine tkP 15 ?_
 refine wpAnyH_done Kr ?_ _
 have H1:=Hq hHeld
 have HK:=Hq (show Below w.heap.size w w1 from(Below.refl _ w).drew.trans hb1)
 clear hHeld hSn hb1
 have c0:=blkCell H1.out 0
 have c1:=blkCell H1.out 1
 have c2:=blkCell H1.out 2
 have f1:=blkFrozen H1.out 1
 have f2:=blkFrozen H1.out 2
 simp at c0 c1 c2
 go_wp2_with fail
 go_ret
 refine⟨rfl,?_,?_⟩
 ·have h:=blkSet 2 H1.out (.bool true)
  first|exact h|simpa using h
 ·refine⟨HK.out.os,HK.out.tape,HK.out.output,by have:=HK.out.size;simpa[World.setCell]using this,fun i hi hib=>?_⟩
  rw[Below.heap_setCell _ _ _ _ hib]
  exact HK.out.block i hi
theorem rtext_any (b:Nat)(s:ByteArray)(x:Rc.St)(hm:s.size≤1000000000)(ha:x.at_≤2000000000)(w:World)(hb:w.heap[b]? =some (.cells (rdC s x.at_ x.bad) 133 (0,0))):
 Calls Tryz.prog 118 #[.pointer (some ⟨b,0,none⟩)] w fun e w'=>e= .returned (.string (Rc.textM s.data.toList x).1)∧w'.heap[b]? =some (.cells (rdC s (Rc.textM s.data.toList x).2.at_ (Rc.textM s.data.toList x).2.bad) 133 (0,0))∧KeptB w.heap.size b w w':=by
 obtain⟨a,bad⟩:=x
 have hl:s.data.toList.length=s.size:=by simp
 have HG:=fun W=>getText_any s a hm ha W
 by_cases hin:a+2+Oct.getN s.data.toList a 2≤s.size
 ·have hN:Rc.textM s.data.toList ⟨a,bad⟩=(s.extract (a+2) (a+2+Oct.getN s.data.toList a 2),(⟨a+2+Oct.getN s.data.toList a 2,bad⟩:Rc.St)):=by
   unfold Rc.textM
   rw[if_pos (by show a+2+Oct.getN s.data.toList a 2≤_;omega),extract_list]
  rw[hN]
  simp only[if_pos hin]at HG
  exact rtext_t b s a bad _ _ HG w hb
 ·have hN:Rc.textM s.data.toList ⟨a,bad⟩=(⟨#[]⟩,(⟨a,true⟩:Rc.St)):=by
   unfold Rc.textM
   rw[if_neg (by show ¬ a+2+Oct.getN s.data.toList a 2≤_;omega)]
  rw[hN]
  simp only[if_neg hin]at HG
  exact rtext_f b s a bad HG w hb
end Go.Proofs.YtilakddepaplhaaGreat
namespace Rc
theorem numM_le {l:List UInt8}{st st':St}{k:Nat}{n:Int}(h:numM true l st k=(n,st')):st'.at_≤st.at_+k:=by
 unfold numM at h
 split at h
 ·injection h with h1 h2;subst h2;exact Nat.le_refl _
 ·injection h with h1 h2;subst h2;exact Nat.le_refl _
theorem textM_le {l:List UInt8}{st st':St}{t:ByteArray}(h:textM l st=(t,st')):st'.at_≤st.at_+l.length:=by
 unfold textM at h
 split at h
 ·rename_i h0
  injection h with h1 h2;subst h2;show _+2+_≤_;omega
 ·injection h with h1 h2;subst h2;exact Nat.le_add_right _ _
theorem numM_in {l:List UInt8}{st st':St}{k:Nat}{n:Int}{adv:Bool}(h:numM adv l st k=(n,st'))(hb:st'.bad=false):st'.at_≤l.length∧st.bad=false:=by
 unfold numM at h
 split at h
 ·rename_i h0
  injection h with h1 h2;subst h2;exact⟨h0,hb⟩
 ·injection h with h1 h2;subst h2;cases hb
theorem numM_nat {l:List UInt8}{st st':St}{k:Nat}{n:Int}{adv:Bool}(h:numM adv l st k=(n,st')):0≤n∧n<((256^k:Nat):Int):=by
 have h0:Oct.getN l st.at_ k<256^k:=by
  have h1:=Oct.getL_lt ((l.drop st.at_).take k)
  have h2:256^((l.drop st.at_).take k).length≤256^k:=Nat.pow_le_pow_right (by omega) (by rw[List.length_take];omega)
  unfold Oct.getN;omega
 unfold numM at h
 split at h
 ·injection h with h1 h2;subst h1;omega
 ·injection h with h1 h2;subst h1
  have:0<256^k:=Nat.pow_pos (by omega)
  omega
end Rc
namespace Go.Proofs.YtilakddepaplhaaGreat
open Go.RowKit
abbrev zeroA:Array Value:=#[(),(),(),(),(),(),(),(),(),"","",(),(),"",(),(),"s","s"]
structure Rd (w:World) (b:Nat) (s:ByteArray) (st:Rc.St) (X:Array Value) (f:Nat) (F:Array Value) (u:World):Prop where
 rd:u.heap[b]? =some (.cells (rdC s st.at_ st.bad) 133 (0,0))
 br:u.heap[w.heap.size]? =some (.cells zeroA 55 (0,0))
 bx:u.heap[w.heap.size+1]? =some (.cells X 55 (0,0))
 bf:f=w.heap.size∨w.heap.size+1<f∧u.heap[f]? =some (.cells F 165 (0,0))
 bw:b<w.heap.size
 kept:KeptB w.heap.size b w u
theorem Rd.size {w u:World}{b f:Nat}{s:ByteArray}{st:Rc.St}{X F:Array Value}(h:Rd w b s st X f F u):w.heap.size+2≤u.heap.size:=heapLt h.bx
theorem Rd.turn {w u v:World}{b f:Nat}{s:ByteArray}{st st':Rc.St}{X F:Array Value}(h:Rd w b s st X f F u)(hr:v.heap[b]? =some (.cells (rdC s st'.at_ st'.bad) 133 (0,0)))(hk:KeptB u.heap.size b u v):Rd w b s st' X f F v:=by
 have hs:=h.size
 have hw:=h.bw
 refine⟨hr,(hk.block _ (by omega) (by omega)).trans h.br,(hk.block _ (by omega) (by omega)).trans h.bx,?_,hw,h.kept.trans ⟨hk.os,hk.tape,hk.output,hk.size,fun k hk1 hk2=>hk.block k (by omega) hk2⟩⟩
 rcases h.bf with h1|⟨h1,h2⟩
 ·exact .inl h1
 ·exact .inr ⟨h1,(hk.block _ (heapLt h2) (by omega)).trans h2⟩
theorem Rd.step {w u v:World}{b f:Nat}{s:ByteArray}{st:Rc.St}{X F:Array Value}(h:Rd w b s st X f F u)(hb:Below u.heap.size u v):Rd w b s st X f F v:=
 h.turn (blkOld h.rd hb) ⟨hb.os,hb.tape,hb.output,hb.size,fun k hk _=>hb.block k hk⟩
theorem Rd.drew {w u:World}{b f:Nat}{s:ByteArray}{st:Rc.St}{X F:Array Value}(h:Rd w b s st X f F u):Rd w b s st X f F u.drew:=h.step (Below.refl _ _).drew
theorem Rd.set {w u:World}{b f:Nat}{s:ByteArray}{st:Rc.St}{X F:Array Value}(h:Rd w b s st X f F u)(i:Nat)(v:Value):Rd w b s st (X.setIfInBounds i v) f F (u.setCell ⟨w.heap.size+1,i,none⟩ v):=by
 have hw:=h.bw
 have hh:∀ k,k≠w.heap.size+1→(u.setCell ⟨w.heap.size+1,i,none⟩ v).heap[k]? =u.heap[k]? :=fun k hk=>Below.heap_setCell _ _ _ _ hk
 refine⟨(hh _ (by omega)).trans h.rd,(hh _ (by omega)).trans h.br,blkSet i h.bx v,?_,hw,h.kept.trans ⟨rfl,rfl,rfl,by simp[World.setCell],fun k hk1 hk2=>hh k (by omega)⟩⟩
 rcases h.bf with h1|⟨h1,h2⟩
 ·exact .inl h1
 ·exact .inr ⟨h1,(hh _ (by omega)).trans h2⟩
theorem Rd.form {w u:World}{b f:Nat}{s:ByteArray}{st:Rc.St}{X F:Array Value}(h:Rd w b s st X f F u)(hf:w.heap.size<f):u.heap[f]? =some (.cells F 165 (0,0)):=by
 rcases h.bf with h1|⟨h1,h2⟩
 ·omega
 ·exact h2
theorem Rd.formed {w u:World}{b f:Nat}{s:ByteArray}{st:Rc.St}{X F:Array Value}(h:Rd w b s st X f F u)(G:Array Value):Rd w b s st X u.heap.size G (u.alloc (.cells G 165)):=by
 have hs:=h.size
 have h1:=h.step (allocB u (.cells G 165))
 exact⟨h1.rd,h1.br,h1.bx,.inr ⟨by omega,heap_alloc_new u _⟩,h1.bw,h1.kept⟩
theorem rd_new {w:World}{b:Nat}{s:ByteArray}{st:Rc.St}(hb:w.heap[b]? =some (.cells (rdC s st.at_ st.bad) 133 (0,0))):
 Rd w b s st zeroA w.heap.size #[] ((w.alloc (.cells zeroA 55)).alloc (.cells zeroA 55)):=
 ⟨blkOld hb (pastAlloc (allocB _ _)),new21 _ _ _,by simpa using new2 w _ _,.inl rfl,heapLt hb,KeptB.of_below (Nat.le_refl _) (pastAlloc (allocB _ _))⟩
theorem Rd.num {w u:World}{b f:Nat}{s:ByteArray}{st st':Rc.St}{X F:Array Value}{n:Int}(h:Rd w b s st X f F u)(k:Nat)(h1:1≤k)(h6:k≤6)(hn:Rc.numM true s.data.toList st k=(n,st'))(hm:s.size≤1000000)(ha:st.at_≤2000000000):
 Calls Tryz.prog 116 #[.pointer (some ⟨b,0,none⟩),.int .i64 (k:Int)] u fun e v=>e= .returned (.int .i64 n)∧Rd w b s st' X f F v:=by
 refine(rnum_any b s st k h1 h6 (by omega) ha u h.rd).mono ?_
 rintro e v ⟨rfl,h2,h3⟩
 rw[hn]at h2 ⊢
 exact⟨rfl,h.turn h2 h3⟩
theorem Rd.num1 {w u:World}{b f:Nat}{s:ByteArray}{st st':Rc.St}{X F:Array Value}{n:Int}(h:Rd w b s st X f F u)(hn:Rc.numM true s.data.toList st 1=(n,st'))(hm:s.size≤1000000)(ha:st.at_≤2000000000):
 Calls Tryz.prog 116 #[.pointer (some ⟨b,0,none⟩),.int .i64 1] u fun e v=>e= .returned (.int .i64 n)∧Rd w b s st' X f F v:=h.num 1 (by omega) (by omega) hn hm ha
theorem Rd.num2 {w u:World}{b f:Nat}{s:ByteArray}{st st':Rc.St}{X F:Array Value}{n:Int}(h:Rd w b s st X f F u)(hn:Rc.numM true s.data.toList st 2=(n,st'))(hm:s.size≤1000000)(ha:st.at_≤2000000000):
 Calls Tryz.prog 116 #[.pointer (some ⟨b,0,none⟩),.int .i64 2] u fun e v=>e= .returned (.int .i64 n)∧Rd w b s st' X f F v:=h.num 2 (by omega) (by omega) hn hm ha
theorem Rd.num3 {w u:World}{b f:Nat}{s:ByteArray}{st st':Rc.St}{X F:Array Value}{n:Int}(h:Rd w b s st X f F u)(hn:Rc.numM true s.data.toList st 3=(n,st'))(hm:s.size≤1000000)(ha:st.at_≤2000000000):
 Calls Tryz.prog 116 #[.pointer (some ⟨b,0,none⟩),.int .i64 3] u fun e v=>e= .returned (.int .i64 n)∧Rd w b s st' X f F v:=h.num 3 (by omega) (by omega) hn hm ha
theorem Rd.num6 {w u:World}{b f:Nat}{s:ByteArray}{st st':Rc.St}{X F:Array Value}{n:Int}(h:Rd w b s st X f F u)(hn:Rc.numM true s.data.toList st 6=(n,st'))(hm:s.size≤1000000)(ha:st.at_≤2000000000):
 Calls Tryz.prog 116 #[.pointer (some ⟨b,0,none⟩),.int .i64 6] u fun e v=>e= .returned (.int .i64 n)∧Rd w b s st' X f F v:=h.num 6 (by omega) (by omega) hn hm ha
structure RecN (n:Nat) (w:World) (r:Rc.Rec) (A:Option Addr) (c:Nat) (B:Option Addr) (d:Nat):Prop where
 rr:RecR w r A c B d
 ta:NewT n w 92 A
 tb:NewT n w 94 B
theorem RecN.mono {n m:Nat}{w:World}{r:Rc.Rec}{A B:Option Addr}{c d:Nat}(h:RecN n w r A c B d)(hm:m≤n):RecN m w r A c B d:=⟨h.rr,h.ta.mono hm,h.tb.mono hm⟩
theorem RecN.below {n:Nat}{w w':World}{r:Rc.Rec}{A B:Option Addr}{c d:Nat}(h:RecN n w r A c B d)(hb:Below w.heap.size w w'):RecN n w' r A c B d:=⟨h.rr.below hb,h.ta.below hb,h.tb.below hb⟩
theorem RecN.turn {n:Nat}{w v:World}{r:Rc.Rec}{A B:Option Addr}{c d:Nat}(h:RecN n w r A c B d)(hs:w.heap.size≤v.heap.size)(hk:∀ k cs T fr,n≤k→w.heap[k]? =some (.cells cs T fr)→T=92∨T=94→v.heap[k]? =w.heap[k]?):RecN n v r A c B d:=by
 refine⟨⟨fun h0=>?_,fun h0=>?_,h.rr.small⟩,fun ad e=>?_,fun ad e=>?_⟩
 ·obtain⟨g,off,e1,e2,e3,e4⟩:=h.rr.txns h0
  obtain⟨h1,cs,fr,h2⟩:=h.ta _ e1
  refine⟨g,off,e1,e2,Nat.lt_of_lt_of_le e3 hs,fun j u hj=>?_⟩
  have:=e4 j u hj
  unfold World.cell? at this ⊢
  rw[hk _ _ _ _ h1 h2 (.inl rfl)]
  exact this
 ·obtain⟨g,off,e1,e2,e3,e4⟩:=h.rr.dirty h0
  obtain⟨h1,cs,fr,h2⟩:=h.tb _ e1
  refine⟨g,off,e1,e2,Nat.lt_of_lt_of_le e3 hs,fun j u hj=>?_⟩
  have:=e4 j u hj
  unfold World.cell? at this ⊢
  rw[hk _ _ _ _ h1 h2 (.inr rfl)]
  exact this
 ·obtain⟨h1,cs,fr,h2⟩:=h.ta ad e
  exact⟨h1,cs,fr,(hk _ _ _ _ h1 h2 (.inl rfl)).trans h2⟩
 ·obtain⟨h1,cs,fr,h2⟩:=h.tb ad e
  exact⟨h1,cs,fr,(hk _ _ _ _ h1 h2 (.inr rfl)).trans h2⟩
theorem RecN.row {n:Nat}{w:World}{r:Rc.Rec}{A B:Option Addr}{c d:Nat}(h:RecN n w r A c B d)(b:Nat)(cs:Array Value)(hb:b<n):RecN n (w.setRow b cs) r A c B d:=
 h.turn (by show _≤(w.heap.modify _ _).size;simp) (fun k _ _ _ hk _ _=>heap_setRow_other _ _ _ _ (by omega))
theorem RecN.set {n:Nat}{w:World}{r:Rc.Rec}{A B:Option Addr}{c d:Nat}(h:RecN n w r A c B d)(b j:Nat)(v:Value)(hb:b<n):RecN n (w.setCell ⟨b,j,none⟩ v) r A c B d:=
 h.turn (by simp[World.setCell]) (fun k _ _ _ hk _ _=>Below.heap_setCell _ _ _ _ (by show k≠b;omega))
theorem RecN.other {n:Nat}{w:World}{r:Rc.Rec}{A B:Option Addr}{c d:Nat}(h:RecN n w r A c B d){b:Nat}{cur:Array Value}{T:TypeId}{fr:Nat×Nat}(hb:w.heap[b]? =some (.cells cur T fr))(h1:T≠92)(h2:T≠94)(cs:Array Value):RecN n (w.setRow b cs) r A c B d:=
 h.turn (by show _≤(w.heap.modify _ _).size;simp) (fun k cs' T' fr' _ hk hT=>heap_setRow_other _ _ _ _ (fun e=>by
  subst e
  rw[hb]at hk
  injection hk with hk
  injection hk with _ hk
  rcases hT with h3|h3
  ·exact h1 (hk.trans h3)
  ·exact h2 (hk.trans h3)))
theorem RecN.grown {n m size B0:Nat}{w w':World}{r:Rc.Rec}{A B:Option Addr}{c d:Nat}{e:TypeId}{v:Value}{xs:List Value}(h:RecN n w r A c B d)(ho:w.ownsRow B0 e size v m xs)(h1:e≠92)(h2:e≠94)(hg:w.grownBy w' v.ownBlock):RecN n w' r A c B d:=
 h.turn hg.size (fun k cs' T' fr' _ hk hT=>hg.block k (heapLt hk) (fun e1=>ownApart ho hk (fun e2=>by
  rcases hT with h3|h3
  ·exact h1 (e2.trans h3)
  ·exact h2 (e2.trans h3)) e1.symm))
def RecOut (r:Rc.Rec)(b:Nat)(w:World)(e:Ending)(w':World):Prop:=
 ∃ A c B d,e= .returned (recV r (.slice A r.txns.length c) (.slice B r.dirty.length d))∧RecN w.heap.size w' r A c B d∧KeptB w.heap.size b w w'
theorem Rd.text {w u:World}{b f:Nat}{s:ByteArray}{st st':Rc.St}{X F:Array Value}{t:ByteArray}(h:Rd w b s st X f F u)(hn:Rc.textM s.data.toList st=(t,st'))(hm:s.size≤1000000)(ha:st.at_≤2000000000):
 Calls Tryz.prog 118 #[.pointer (some ⟨b,0,none⟩)] u fun e v=>e= .returned (.string t)∧Rd w b s st' X f F v:=by
 refine(rtext_any b s st (by omega) ha u h.rd).mono ?_
 rintro e v ⟨rfl,h2,h3⟩
 rw[hn]at h2 ⊢
 exact⟨rfl,h.turn h2 h3⟩
theorem heap_setRow_ne (w:World)(b:Nat)(cs:Array Value)(k:Nat)(h:k≠b):(w.setRow b cs).heap[k]? =w.heap[k]? :=by
 show(w.heap.modify b _)[k]? =_
 rw[Array.getElem?_modify,if_neg (fun e=>h e.symm)]
theorem Rd.done {w u:World}{b f:Nat}{s:ByteArray}{st:Rc.St}{X F:Array Value}(h:Rd w b s st X f F u):(u.setRow w.heap.size X).heap[w.heap.size]? =some (.cells X 55 (0,0))∧KeptB w.heap.size b w (u.setRow w.heap.size X):=
 ⟨setRow_heap _ _ _ _ _ _ h.br,h.kept.trans ⟨rfl,rfl,rfl,by show _≤(u.heap.modify _ _).size;simp,fun k hk _=>heap_setRow_ne _ _ _ _ (by omega)⟩⟩
theorem record_other (b:Nat)(s:ByteArray)(hm:s.size≤1000000)(s1:Rc.St)(kd:Int)(hk2:kd≠2)(hk3:kd≠3)(hk4:kd≠4)(hk8:kd≠8)(hk9:kd≠9)(h0:Rc.numM true s.data.toList ⟨0,false⟩ 1=(kd,s1))(w:World)(hb:w.heap[b]? =some (.cells (rdC s 0 false) 133 (0,0))):
 Calls Tryz.prog 83 #[.pointer (some ⟨b,0,none⟩)] w (RecOut (Rc.readM true s.data.toList) b w):=by
 have hl:s.data.toList.length=s.size:=by simp
 have a1:s1.at_≤1:=Rc.numM_le h0
 have C0:=Hq (fun X f F u (hu:Rd w b s ⟨0,false⟩ X f F u)=>hu.num1 h0 hm (by show 0≤_;omega))
 rcases h1:Rc.numM true s.data.toList s1 6 with⟨lsn,s2⟩
 have a2:s2.at_≤s1.at_+6:=Rc.numM_le h1
 have C1:=Hq (fun X f F u (hu:Rd w b s s1 X f F u)=>hu.num6 h1 hm (by omega))
 rcases h2:Rc.numM true s.data.toList s2 6 with⟨prev,s3⟩
 have a3:s3.at_≤s2.at_+6:=Rc.numM_le h2
 have C2:=Hq (fun X f F u (hu:Rd w b s s2 X f F u)=>hu.num6 h2 hm (by omega))
 rcases h3:Rc.numM true s.data.toList s3 6 with⟨txn,s4⟩
 have a4:s4.at_≤s3.at_+6:=Rc.numM_le h3
 have C3:=Hq (fun X f F u (hu:Rd w b s s3 X f F u)=>hu.num6 h3 hm (by omega))
 have e0:Rc.headM true s.data.toList=(Rc.bare kd lsn prev txn,s4):=by
  unfold Rc.headM;simp only[h0,h1,h2,h3]
 have RD:Rc.readM true s.data.toList=Rc.bare kd lsn prev txn:=by
  unfold Rc.readM
  rw[e0]
  show Rc.restM true _ (Rc.bare kd lsn prev txn) s4=_
  unfold Rc.restM
  have hkk:(Rc.bare kd lsn prev txn).kind=kd:=rfl
  rw[hkk,if_neg hk2,if_neg hk3,if_neg hk4,if_neg hk8,if_neg hk9]
 obtain⟨e,HOF⟩:∃ e,Hid (∀ W,Calls Tryz.prog 117 #[kd] W fun x W'=>x= .returned (.tuple #[formV false false false false e,e])∧Below W.heap.size W W'):=by
  refine⟨decide (1≤kd∧kd≤9),Hq (fun W=>?_)⟩
  have h:=of_any kd W
  rw[show ofV kd= .tuple #[formV false false false false (decide (1≤kd∧kd≤9)),.bool (decide (1≤kd∧kd≤9))]from by unfold ofV;simp[hk2,hk3,hk4,hk8,hk9]]at h
  exact h
 clear hk2 hk3 hk4 hk8 hk9
 have RDH:=Hq RD
 clear RD
 have HX:=Hq (rd_new (st:=⟨0,false⟩) hb)
 clear hb e0 h0 a1 h1 a2 h2 a3 h3 a4
 go_enter Tryz.func83,Tryz.ntmps83
 go_upto_region 2 with fail
 obtain⟨W0,hW0⟩:=ex ((w.alloc (.cells (rcA 0 0 0 0 0 0 0 0 0 ⟨#[]⟩ ⟨#[]⟩ 0 0 ⟨#[]⟩ 0 0 (.slice none 0 0) (.slice none 0 0)) 55)).alloc (.cells (rcA 0 0 0 0 0 0 0 0 0 ⟨#[]⟩ ⟨#[]⟩ 0 0 ⟨#[]⟩ 0 0 (.slice none 0 0) (.slice none 0 0)) 55))
 rw[← hW0]at HX ⊢
 clear hW0
 go_upto_region 3 with(first|(go_at_call 116;(with_reducible refine(C0.out _ _ _ _ HX.out).mono ?_);rintro e w1 ⟨rfl,hS1⟩;have hz1:=blkFrozen hS1.bx;have hy1:=blkCell hS1.bx))
 obtain⟨U1,hU1⟩:=ex (w1.setCell ⟨w.heap.size+1,3,none⟩ (.int .i64 kd))
 have H1:Hid (Rd w b s s1 (rcA 0 0 0 kd 0 0 0 0 0 ⟨#[]⟩ ⟨#[]⟩ 0 0 ⟨#[]⟩ 0 0 (.slice none 0 0) (.slice none 0 0)) w.heap.size #[] (w1.setCell ⟨w.heap.size+1,3,none⟩ (.int .i64 kd))):=Hq (by have h:=(hS1.set 3 (.int .i64 kd));first|exact h|simpa using h)
 rw[← hU1]at H1 ⊢
 clear hU1 hS1 hz1 hy1 HX
 have hcx:=blkCell H1.out.bx
 go_upto_region 4 with(go_at_call 117;(with_reducible refine(HOF.out _).mono ?_);rintro e w9 ⟨rfl,hb9⟩)
 have HF:=Hq ((H1.out.step hb9).formed #[false,false,false,false,e])
 have hf:w.heap.size+1<w9.heap.size:=by have h1:=H1.out.size;have h2:=hb9.size;omega
 obtain⟨f,hfe⟩:=ex w9.heap.size
 rw[← hfe]at HF hf ⊢
 obtain⟨WF,hWF⟩:=ex (w9.alloc (.cells #[false,false,false,false,e] 165))
 rw[← hWF]at HF ⊢
 clear hWF hfe hb9 hcx H1
 have hF:=blkCell (HF.out.form (by omega))
 go_upto_region 5 with(first|(go_at_call 116;(with_reducible refine(C1.out _ _ _ _ HF.out).mono ?_);rintro e w2 ⟨rfl,hS2⟩;have hz2:=blkFrozen hS2.bx;have hy2:=blkCell hS2.bx)|(go_at_call 116;(with_reducible refine(C2.out _ _ _ _ hS2).mono ?_);rintro e w3 ⟨rfl,hS3⟩;have hz3:=blkFrozen hS3.bx;have hy3:=blkCell hS3.bx)|(go_at_call 116;(with_reducible refine(C3.out _ _ _ _ hS3).mono ?_);rintro e w4 ⟨rfl,hS4⟩;have hz4:=blkFrozen hS4.bx;have hy4:=blkCell hS4.bx))
 obtain⟨U4,hU4⟩:=ex (((w4.setCell ⟨w.heap.size+1,0,none⟩ (.int .i64 lsn)).setCell ⟨w.heap.size+1,1,none⟩ (.int .i64 prev)).setCell ⟨w.heap.size+1,2,none⟩ (.int .i64 txn))
 have H4:Hid (Rd w b s s4 (rcA lsn prev txn kd 0 0 0 0 0 ⟨#[]⟩ ⟨#[]⟩ 0 0 ⟨#[]⟩ 0 0 (.slice none 0 0) (.slice none 0 0)) f #[false,false,false,false,e] (((w4.setCell ⟨w.heap.size+1,0,none⟩ (.int .i64 lsn)).setCell ⟨w.heap.size+1,1,none⟩ (.int .i64 prev)).setCell ⟨w.heap.size+1,2,none⟩ (.int .i64 txn))):=Hq (by have h:=(((hS4.set 0 (.int .i64 lsn)).set 1 (.int .i64 prev)).set 2 (.int .i64 txn));first|exact h|simpa using h)
 rw[← hU4]at H4 ⊢
 clear hU4 hS4 hz4 hy4 hS3 hz3 hy3 hS2 hz2 hy2 HF hF
 have hF:=blkCell (H4.out.form (by omega))
 go_upto_region 26 with fail
 clear hF
 go_wp2_with (first|(with_reducible refine lL H4.out.bx Tryz.underlying55 ?_)|(with_reducible refine lS (rcA lsn prev txn kd 0 0 0 0 0 ⟨#[]⟩ ⟨#[]⟩ 0 0 ⟨#[]⟩ 0 0 (.slice none 0 0) (.slice none 0 0)) H4.out.br ?_))
 refine bodyPost_ret (v:=.agg (rcA lsn prev txn kd 0 0 0 0 0 ⟨#[]⟩ ⟨#[]⟩ 0 0 ⟨#[]⟩ 0 0 (.slice none 0 0) (.slice none 0 0))) (results_cell rfl _ _ rfl (load_whole H4.out.done.1 Tryz.underlying55 Kr Kr)) rfl ?_
 rw[RDH.out]
 exact⟨none,0,none,0,rfl,⟨⟨Reads.none_ _ _ _ _,Reads.none_ _ _ _ _,⟨Nat.zero_le _,Nat.zero_le _⟩⟩,NewT.none_ _ _ _,NewT.none_ _ _ _⟩,H4.out.done.2⟩
theorem record_nest (b:Nat)(s:ByteArray)(hm:s.size≤1000000)(s1:Rc.St)(h0:Rc.numM true s.data.toList ⟨0,false⟩ 1=(4,s1))(w:World)(hb:w.heap[b]? =some (.cells (rdC s 0 false) 133 (0,0))):
 Calls Tryz.prog 83 #[.pointer (some ⟨b,0,none⟩)] w (RecOut (Rc.readM true s.data.toList) b w):=by
 have hl:s.data.toList.length=s.size:=by simp
 have a1:s1.at_≤1:=Rc.numM_le h0
 have C0:=Hq (fun X f F u (hu:Rd w b s ⟨0,false⟩ X f F u)=>hu.num1 h0 hm (by show 0≤_;omega))
 rcases h1:Rc.numM true s.data.toList s1 6 with⟨lsn,s2⟩
 have a2:s2.at_≤s1.at_+6:=Rc.numM_le h1
 have C1:=Hq (fun X f F u (hu:Rd w b s s1 X f F u)=>hu.num6 h1 hm (by omega))
 rcases h2:Rc.numM true s.data.toList s2 6 with⟨prev,s3⟩
 have a3:s3.at_≤s2.at_+6:=Rc.numM_le h2
 have C2:=Hq (fun X f F u (hu:Rd w b s s2 X f F u)=>hu.num6 h2 hm (by omega))
 rcases h3:Rc.numM true s.data.toList s3 6 with⟨txn,s4⟩
 have a4:s4.at_≤s3.at_+6:=Rc.numM_le h3
 have C3:=Hq (fun X f F u (hu:Rd w b s s3 X f F u)=>hu.num6 h3 hm (by omega))
 rcases h4:Rc.numM true s.data.toList s4 6 with⟨nx,s5⟩
 have a5:s5.at_≤s4.at_+6:=Rc.numM_le h4
 have C4:=Hq (fun X f F u (hu:Rd w b s s4 X f F u)=>hu.num6 h4 hm (by omega))
 have e0:Rc.headM true s.data.toList=(Rc.bare 4 lsn prev txn,s4):=by
  unfold Rc.headM;simp only[h0,h1,h2,h3]
 have RD:Rc.readM true s.data.toList=⟨lsn,prev,txn,4,0,nx,0,Rc.noOp,0,0,Rc.noKey,[],[]⟩:=by
  unfold Rc.readM
  rw[e0]
  show Rc.restM true _ (Rc.bare 4 lsn prev txn) s4=_
  rw[Rc.restM_4 rfl]
  simp only[h4]
  rfl
 have HOF:=Hq (fun W=>of_any 4 W)
 rw[show ofV 4= .tuple #[formV false false true false true,true]from rfl]at HOF
 have RDH:=Hq RD
 clear RD
 have HX:=Hq (rd_new (st:=⟨0,false⟩) hb)
 clear hb e0 h0 a1 h1 a2 h2 a3 h3 a4 h4 a5
 go_enter Tryz.func83,Tryz.ntmps83
 go_upto_region 2 with fail
 obtain⟨W0,hW0⟩:=ex ((w.alloc (.cells (rcA 0 0 0 0 0 0 0 0 0 ⟨#[]⟩ ⟨#[]⟩ 0 0 ⟨#[]⟩ 0 0 (.slice none 0 0) (.slice none 0 0)) 55)).alloc (.cells (rcA 0 0 0 0 0 0 0 0 0 ⟨#[]⟩ ⟨#[]⟩ 0 0 ⟨#[]⟩ 0 0 (.slice none 0 0) (.slice none 0 0)) 55))
 rw[← hW0]at HX ⊢
 clear hW0
 go_upto_region 3 with(first|(go_at_call 116;(with_reducible refine(C0.out _ _ _ _ HX.out).mono ?_);rintro e w1 ⟨rfl,hS1⟩;have hz1:=blkFrozen hS1.bx;have hy1:=blkCell hS1.bx))
 obtain⟨U1,hU1⟩:=ex (w1.setCell ⟨w.heap.size+1,3,none⟩ (.int .i64 4))
 have H1:Hid (Rd w b s s1 (rcA 0 0 0 4 0 0 0 0 0 ⟨#[]⟩ ⟨#[]⟩ 0 0 ⟨#[]⟩ 0 0 (.slice none 0 0) (.slice none 0 0)) w.heap.size #[] (w1.setCell ⟨w.heap.size+1,3,none⟩ (.int .i64 4))):=Hq (by have h:=(hS1.set 3 (.int .i64 4));first|exact h|simpa using h)
 rw[← hU1]at H1 ⊢
 clear hU1 hS1 hz1 hy1 HX
 have hcx:=blkCell H1.out.bx
 go_upto_region 4 with(go_at_call 117;(with_reducible refine(HOF.out _).mono ?_);rintro e w9 ⟨rfl,hb9⟩)
 have HF:=Hq ((H1.out.step hb9).formed #[false,false,true,false,true])
 have hf:w.heap.size+1<w9.heap.size:=by have h1:=H1.out.size;have h2:=hb9.size;omega
 obtain⟨f,hfe⟩:=ex w9.heap.size
 rw[← hfe]at HF hf ⊢
 obtain⟨WF,hWF⟩:=ex (w9.alloc (.cells #[false,false,true,false,true] 165))
 rw[← hWF]at HF ⊢
 clear hWF hfe hb9 hcx H1
 have hF:=blkCell (HF.out.form (by omega))
 go_upto_region 5 with(first|(go_at_call 116;(with_reducible refine(C1.out _ _ _ _ HF.out).mono ?_);rintro e w2 ⟨rfl,hS2⟩;have hz2:=blkFrozen hS2.bx;have hy2:=blkCell hS2.bx)|(go_at_call 116;(with_reducible refine(C2.out _ _ _ _ hS2).mono ?_);rintro e w3 ⟨rfl,hS3⟩;have hz3:=blkFrozen hS3.bx;have hy3:=blkCell hS3.bx)|(go_at_call 116;(with_reducible refine(C3.out _ _ _ _ hS3).mono ?_);rintro e w4 ⟨rfl,hS4⟩;have hz4:=blkFrozen hS4.bx;have hy4:=blkCell hS4.bx))
 obtain⟨U4,hU4⟩:=ex (((w4.setCell ⟨w.heap.size+1,0,none⟩ (.int .i64 lsn)).setCell ⟨w.heap.size+1,1,none⟩ (.int .i64 prev)).setCell ⟨w.heap.size+1,2,none⟩ (.int .i64 txn))
 have H4:Hid (Rd w b s s4 (rcA lsn prev txn 4 0 0 0 0 0 ⟨#[]⟩ ⟨#[]⟩ 0 0 ⟨#[]⟩ 0 0 (.slice none 0 0) (.slice none 0 0)) f #[false,false,true,false,true] (((w4.setCell ⟨w.heap.size+1,0,none⟩ (.int .i64 lsn)).setCell ⟨w.heap.size+1,1,none⟩ (.int .i64 prev)).setCell ⟨w.heap.size+1,2,none⟩ (.int .i64 txn))):=Hq (by have h:=(((hS4.set 0 (.int .i64 lsn)).set 1 (.int .i64 prev)).set 2 (.int .i64 txn));first|exact h|simpa using h)
 rw[← hU4]at H4 ⊢
 clear hU4 hS4 hz4 hy4 hS3 hz3 hy3 hS2 hz2 hy2 HF hF
 have hF:=blkCell (H4.out.form (by omega))
 go_upto_region 16 with(first|(go_at_call 116;(with_reducible refine(C4.out _ _ _ _ H4.out).mono ?_);rintro e w5 ⟨rfl,hS5⟩;have hz5:=blkFrozen hS5.bx;have hy5:=blkCell hS5.bx))
 obtain⟨U5,hU5⟩:=ex (w5.setCell ⟨w.heap.size+1,5,none⟩ (.int .i64 nx))
 have H5:Hid (Rd w b s s5 (rcA lsn prev txn 4 0 nx 0 0 0 ⟨#[]⟩ ⟨#[]⟩ 0 0 ⟨#[]⟩ 0 0 (.slice none 0 0) (.slice none 0 0)) f #[false,false,true,false,true] (w5.setCell ⟨w.heap.size+1,5,none⟩ (.int .i64 nx))):=Hq (by have h:=(hS5.set 5 (.int .i64 nx));first|exact h|simpa using h)
 rw[← hU5]at H5 ⊢
 clear hU5 hS5 hz5 hy5 H4 hF
 have hF:=blkCell (H5.out.form (by omega))
 go_upto_region 26 with fail
 clear hF
 go_wp2_with (first|(with_reducible refine lL H5.out.bx Tryz.underlying55 ?_)|(with_reducible refine lS (rcA lsn prev txn 4 0 nx 0 0 0 ⟨#[]⟩ ⟨#[]⟩ 0 0 ⟨#[]⟩ 0 0 (.slice none 0 0) (.slice none 0 0)) H5.out.br ?_))
 refine bodyPost_ret (v:=.agg (rcA lsn prev txn 4 0 nx 0 0 0 ⟨#[]⟩ ⟨#[]⟩ 0 0 ⟨#[]⟩ 0 0 (.slice none 0 0) (.slice none 0 0))) (results_cell rfl _ _ rfl (load_whole H5.out.done.1 Tryz.underlying55 Kr Kr)) rfl ?_
 rw[RDH.out]
 exact⟨none,0,none,0,rfl,⟨⟨Reads.none_ _ _ _ _,Reads.none_ _ _ _ _,⟨Nat.zero_le _,Nat.zero_le _⟩⟩,NewT.none_ _ _ _,NewT.none_ _ _ _⟩,H5.out.done.2⟩
theorem record_image (b:Nat)(s:ByteArray)(hm:s.size≤1000000)(s1:Rc.St)(h0:Rc.numM true s.data.toList ⟨0,false⟩ 1=(8,s1))(w:World)(hb:w.heap[b]? =some (.cells (rdC s 0 false) 133 (0,0))):
 Calls Tryz.prog 83 #[.pointer (some ⟨b,0,none⟩)] w (RecOut (Rc.readM true s.data.toList) b w):=by
 have hl:s.data.toList.length=s.size:=by simp
 have a1:s1.at_≤1:=Rc.numM_le h0
 have C0:=Hq (fun X f F u (hu:Rd w b s ⟨0,false⟩ X f F u)=>hu.num1 h0 hm (by show 0≤_;omega))
 rcases h1:Rc.numM true s.data.toList s1 6 with⟨lsn,s2⟩
 have a2:s2.at_≤s1.at_+6:=Rc.numM_le h1
 have C1:=Hq (fun X f F u (hu:Rd w b s s1 X f F u)=>hu.num6 h1 hm (by omega))
 rcases h2:Rc.numM true s.data.toList s2 6 with⟨prev,s3⟩
 have a3:s3.at_≤s2.at_+6:=Rc.numM_le h2
 have C2:=Hq (fun X f F u (hu:Rd w b s s2 X f F u)=>hu.num6 h2 hm (by omega))
 rcases h3:Rc.numM true s.data.toList s3 6 with⟨txn,s4⟩
 have a4:s4.at_≤s3.at_+6:=Rc.numM_le h3
 have C3:=Hq (fun X f F u (hu:Rd w b s s3 X f F u)=>hu.num6 h3 hm (by omega))
 rcases h4:Rc.numM true s.data.toList s4 3 with⟨pa,s5⟩
 have a5:s5.at_≤s4.at_+3:=Rc.numM_le h4
 have C4:=Hq (fun X f F u (hu:Rd w b s s4 X f F u)=>hu.num3 h4 hm (by omega))
 rcases h5:Rc.numM true s.data.toList s5 1 with⟨ok,s6⟩
 have a6:s6.at_≤s5.at_+1:=Rc.numM_le h5
 have C5:=Hq (fun X f F u (hu:Rd w b s s5 X f F u)=>hu.num1 h5 hm (by omega))
 rcases h6:Rc.numM true s.data.toList s6 2 with⟨os,s7⟩
 have a7:s7.at_≤s6.at_+2:=Rc.numM_le h6
 have C6:=Hq (fun X f F u (hu:Rd w b s s6 X f F u)=>hu.num2 h6 hm (by omega))
 rcases h7:Rc.textM s.data.toList s7 with⟨oo,s8⟩
 have a8:s8.at_≤s7.at_+s.data.toList.length:=Rc.textM_le h7
 have C7:=Hq (fun X f F u (hu:Rd w b s s7 X f F u)=>hu.text h7 hm (by omega))
 rcases h8:Rc.textM s.data.toList s8 with⟨on,s9⟩
 have a9:s9.at_≤s8.at_+s.data.toList.length:=Rc.textM_le h8
 have C8:=Hq (fun X f F u (hu:Rd w b s s8 X f F u)=>hu.text h8 hm (by omega))
 have e0:Rc.headM true s.data.toList=(Rc.bare 8 lsn prev txn,s4):=by
  unfold Rc.headM;simp only[h0,h1,h2,h3]
 have RD:Rc.readM true s.data.toList=⟨lsn,prev,txn,8,pa,0,0,⟨ok,os,oo,on⟩,0,0,Rc.noKey,[],[]⟩:=by
  unfold Rc.readM
  rw[e0]
  show Rc.restM true _ (Rc.bare 8 lsn prev txn) s4=_
  rw[Rc.restM_8 rfl]
  unfold Rc.opM
  simp only[h4,h5,h6,h7,h8]
  rfl
 have HOF:=Hq (fun W=>of_any 8 W)
 rw[show ofV 8= .tuple #[formV true false false false true,true]from rfl]at HOF
 have RDH:=Hq RD
 clear RD
 have HX:=Hq (rd_new (st:=⟨0,false⟩) hb)
 clear hb e0 h0 a1 h1 a2 h2 a3 h3 a4 h4 a5 h5 a6 h6 a7 h7 a8 h8 a9
 go_enter Tryz.func83,Tryz.ntmps83
 go_upto_region 2 with fail
 obtain⟨W0,hW0⟩:=ex ((w.alloc (.cells (rcA 0 0 0 0 0 0 0 0 0 ⟨#[]⟩ ⟨#[]⟩ 0 0 ⟨#[]⟩ 0 0 (.slice none 0 0) (.slice none 0 0)) 55)).alloc (.cells (rcA 0 0 0 0 0 0 0 0 0 ⟨#[]⟩ ⟨#[]⟩ 0 0 ⟨#[]⟩ 0 0 (.slice none 0 0) (.slice none 0 0)) 55))
 rw[← hW0]at HX ⊢
 clear hW0
 go_upto_region 3 with(first|(go_at_call 116;(with_reducible refine(C0.out _ _ _ _ HX.out).mono ?_);rintro e w1 ⟨rfl,hS1⟩;have hz1:=blkFrozen hS1.bx;have hy1:=blkCell hS1.bx))
 obtain⟨U1,hU1⟩:=ex (w1.setCell ⟨w.heap.size+1,3,none⟩ (.int .i64 8))
 have H1:Hid (Rd w b s s1 (rcA 0 0 0 8 0 0 0 0 0 ⟨#[]⟩ ⟨#[]⟩ 0 0 ⟨#[]⟩ 0 0 (.slice none 0 0) (.slice none 0 0)) w.heap.size #[] (w1.setCell ⟨w.heap.size+1,3,none⟩ (.int .i64 8))):=Hq (by have h:=(hS1.set 3 (.int .i64 8));first|exact h|simpa using h)
 rw[← hU1]at H1 ⊢
 clear hU1 hS1 hz1 hy1 HX
 have hcx:=blkCell H1.out.bx
 go_upto_region 4 with(go_at_call 117;(with_reducible refine(HOF.out _).mono ?_);rintro e w9 ⟨rfl,hb9⟩)
 have HF:=Hq ((H1.out.step hb9).formed #[true,false,false,false,true])
 have hf:w.heap.size+1<w9.heap.size:=by have h1:=H1.out.size;have h2:=hb9.size;omega
 obtain⟨f,hfe⟩:=ex w9.heap.size
 rw[← hfe]at HF hf ⊢
 obtain⟨WF,hWF⟩:=ex (w9.alloc (.cells #[true,false,false,false,true] 165))
 rw[← hWF]at HF ⊢
 clear hWF hfe hb9 hcx H1
 have hF:=blkCell (HF.out.form (by omega))
 go_upto_region 5 with(first|(go_at_call 116;(with_reducible refine(C1.out _ _ _ _ HF.out).mono ?_);rintro e w2 ⟨rfl,hS2⟩;have hz2:=blkFrozen hS2.bx;have hy2:=blkCell hS2.bx)|(go_at_call 116;(with_reducible refine(C2.out _ _ _ _ hS2).mono ?_);rintro e w3 ⟨rfl,hS3⟩;have hz3:=blkFrozen hS3.bx;have hy3:=blkCell hS3.bx)|(go_at_call 116;(with_reducible refine(C3.out _ _ _ _ hS3).mono ?_);rintro e w4 ⟨rfl,hS4⟩;have hz4:=blkFrozen hS4.bx;have hy4:=blkCell hS4.bx))
 obtain⟨U4,hU4⟩:=ex (((w4.setCell ⟨w.heap.size+1,0,none⟩ (.int .i64 lsn)).setCell ⟨w.heap.size+1,1,none⟩ (.int .i64 prev)).setCell ⟨w.heap.size+1,2,none⟩ (.int .i64 txn))
 have H4:Hid (Rd w b s s4 (rcA lsn prev txn 8 0 0 0 0 0 ⟨#[]⟩ ⟨#[]⟩ 0 0 ⟨#[]⟩ 0 0 (.slice none 0 0) (.slice none 0 0)) f #[true,false,false,false,true] (((w4.setCell ⟨w.heap.size+1,0,none⟩ (.int .i64 lsn)).setCell ⟨w.heap.size+1,1,none⟩ (.int .i64 prev)).setCell ⟨w.heap.size+1,2,none⟩ (.int .i64 txn))):=Hq (by have h:=(((hS4.set 0 (.int .i64 lsn)).set 1 (.int .i64 prev)).set 2 (.int .i64 txn));first|exact h|simpa using h)
 rw[← hU4]at H4 ⊢
 clear hU4 hS4 hz4 hy4 hS3 hz3 hy3 hS2 hz2 hy2 HF hF
 have hF:=blkCell (H4.out.form (by omega))
 go_upto_region 7 with(first|(go_at_call 116;(with_reducible refine(C4.out _ _ _ _ H4.out).mono ?_);rintro e w5 ⟨rfl,hS5⟩;have hz5:=blkFrozen hS5.bx;have hy5:=blkCell hS5.bx))
 obtain⟨U5,hU5⟩:=ex (w5.setCell ⟨w.heap.size+1,4,none⟩ (.int .i64 pa))
 have H5:Hid (Rd w b s s5 (rcA lsn prev txn 8 pa 0 0 0 0 ⟨#[]⟩ ⟨#[]⟩ 0 0 ⟨#[]⟩ 0 0 (.slice none 0 0) (.slice none 0 0)) f #[true,false,false,false,true] (w5.setCell ⟨w.heap.size+1,4,none⟩ (.int .i64 pa))):=Hq (by have h:=(hS5.set 4 (.int .i64 pa));first|exact h|simpa using h)
 rw[← hU5]at H5 ⊢
 clear hU5 hS5 hz5 hy5 H4 hF
 go_upto_region 8 with(first|(go_at_call 116;(with_reducible refine(C5.out _ _ _ _ H5.out).mono ?_);rintro e w6 ⟨rfl,hS6⟩;have hz6:=blkFrozen hS6.bx;have hy6:=blkCell hS6.bx)|(go_at_call 116;(with_reducible refine(C6.out _ _ _ _ hS6).mono ?_);rintro e w7 ⟨rfl,hS7⟩;have hz7:=blkFrozen hS7.bx;have hy7:=blkCell hS7.bx)|(go_at_call 118;(with_reducible refine(C7.out _ _ _ _ hS7).mono ?_);rintro e w8 ⟨rfl,hS8⟩;have hz8:=blkFrozen hS8.bx;have hy8:=blkCell hS8.bx)|(go_at_call 118;(with_reducible refine(C8.out _ _ _ _ hS8).mono ?_);rintro e w9 ⟨rfl,hS9⟩;have hz9:=blkFrozen hS9.bx;have hy9:=blkCell hS9.bx))
 obtain⟨U9,hU9⟩:=ex ((((w9.setCell ⟨w.heap.size+1,7,none⟩ (.int .i64 ok)).setCell ⟨w.heap.size+1,8,none⟩ (.int .i64 os)).setCell ⟨w.heap.size+1,9,none⟩ (.string oo)).setCell ⟨w.heap.size+1,10,none⟩ (.string on))
 have H9:Hid (Rd w b s s9 (rcA lsn prev txn 8 pa 0 0 ok os oo on 0 0 ⟨#[]⟩ 0 0 (.slice none 0 0) (.slice none 0 0)) f #[true,false,false,false,true] ((((w9.setCell ⟨w.heap.size+1,7,none⟩ (.int .i64 ok)).setCell ⟨w.heap.size+1,8,none⟩ (.int .i64 os)).setCell ⟨w.heap.size+1,9,none⟩ (.string oo)).setCell ⟨w.heap.size+1,10,none⟩ (.string on))):=Hq (by have h:=((((hS9.set 7 (.int .i64 ok)).set 8 (.int .i64 os)).set 9 (.string oo)).set 10 (.string on));first|exact h|simpa using h)
 rw[← hU9]at H9 ⊢
 clear hU9 hS9 hz9 hy9 hS8 hz8 hy8 hS7 hz7 hy7 hS6 hz6 hy6 H5
 have hF:=blkCell (H9.out.form (by omega))
 go_upto_region 26 with fail
 clear hF
 go_wp2_with (first|(with_reducible refine lL H9.out.bx Tryz.underlying55 ?_)|(with_reducible refine lS (rcA lsn prev txn 8 pa 0 0 ok os oo on 0 0 ⟨#[]⟩ 0 0 (.slice none 0 0) (.slice none 0 0)) H9.out.br ?_))
 refine bodyPost_ret (v:=.agg (rcA lsn prev txn 8 pa 0 0 ok os oo on 0 0 ⟨#[]⟩ 0 0 (.slice none 0 0) (.slice none 0 0))) (results_cell rfl _ _ rfl (load_whole H9.out.done.1 Tryz.underlying55 Kr Kr)) rfl ?_
 rw[RDH.out]
 exact⟨none,0,none,0,rfl,⟨⟨Reads.none_ _ _ _ _,Reads.none_ _ _ _ _,⟨Nat.zero_le _,Nat.zero_le _⟩⟩,NewT.none_ _ _ _,NewT.none_ _ _ _⟩,H9.out.done.2⟩
end Go.Proofs.YtilakddepaplhaaGreat
