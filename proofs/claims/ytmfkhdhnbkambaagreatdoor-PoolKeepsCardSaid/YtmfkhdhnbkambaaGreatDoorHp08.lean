import Derived.Test.YtmfkhdhnbkambaaGreatDoorHp00
import Derived.Test.YtmfkhdhnbkambaaGreatDoorHp05
import Derived.Test.YtmfkhdhnbkambaaGreatDoorHp01
import Derived.Test.YtmfkhdhnbkambaaGreatDoorHp02
import Derived.BigRegion
import Derived.Test.YtmfkhdhnbkambaaGreatDoorHp06
import Derived.Test.YtmfkhdhnbkambaaGreatDoorHp07
set_option maxRecDepth 100000
set_option maxHeartbeats 16000000
set_option linter.unusedSimpArgs false
namespace Rc
theorem t_len (s:ByteArray):(t s).length=2+s.size:=by
 unfold t;rw[List.length_append,p_length];simp
theorem opB_len {o:Op}(h:opR o):(opB o).length≤1031:=by
 obtain⟨_,_,_,h4,h5⟩:=h
 unfold opB
 simp only[List.length_append,p_length,t_len]
 omega
theorem flat_len {α:Type}(f:α→List UInt8)(k:Nat)(hf:∀ x,(f x).length=k):∀ l:List α,(l.flatMap f).length=l.length*k:=by
 intro l
 induction l with
 |nil=>simp
 |cons x l ih=>rw[List.flatMap_cons,List.length_append,hf,ih,List.length_cons,Nat.add_mul];omega
theorem txnB_len (x:TxnAt):(txnB x).length=19:=by
 unfold txnB;simp only[List.length_append,p_length]
theorem dirtyB_len (x:DirtyAt):(dirtyB x).length=9:=by
 unfold dirtyB;simp only[List.length_append,p_length]
theorem headB_len (r:Rec):(headB r).length=19:=by
 unfold headB;simp only[List.length_append,p_length]
theorem listsB_len {r:Rec}(h:listsR r):(listsB r).length≤37010:=by
 obtain⟨h1,h2,_⟩:=h
 unfold listsB
 simp only[List.length_append,p_length,flat_len txnB 19 txnB_len,flat_len dirtyB 9 dirtyB_len]
 omega
theorem bodyB_len {r:Rec}(h:Right r):19≤(bodyB r).length∧(bodyB r).length≤40000:=by
 unfold bodyB
 rw[List.length_append,headB_len]
 refine⟨by omega,?_⟩
 cases h with
 |small kind lsn prev txn hk h1 h2 h3=>
  have hk2:restB (bare kind lsn prev txn)=[]:=by
   unfold restB bare
   simp only
   rw[if_neg (by omega),if_neg (by omega),if_neg (by omega),if_neg (by omega),if_neg (by omega)]
  rw[hk2];simp
 |change lsn prev txn page op how root e h1 h2 h3 h4 h5 h6=>
  rw[restB_2 rfl]
  have ho:=opB_len h5
  have ht:(treeB ⟨lsn,prev,txn,2,page,0,0,op,how,root,e,[],[]⟩).length≤200:=by
   unfold treeB
   rcases h6 with⟨h7,_⟩|⟨h7,h8,h9,h10,h11⟩
   ·simp only at h7;subst h7;simp
   ·simp only at h7 h11
    rw[if_neg (show ¬ how=1 by omega)]
    simp only[List.length_append,p_length,t_len]
    omega
  simp only[List.length_append,p_length]
  omega
 |clr lsn prev txn page op next h1 h2 h3 h4 h5 h6=>
  rw[restB_3 rfl]
  have ho:=opB_len h5
  simp only[List.length_append,p_length]
  omega
 |nest lsn prev txn next h1 h2 h3 h6=>
  rw[restB_4 rfl]
  simp only[p_length]
  omega
 |image lsn prev txn page op h1 h2 h3 h4 h5=>
  rw[restB_8 rfl]
  have ho:=opB_len h5
  simp only[List.length_append,p_length]
  omega
 |check lsn prev txn n ts ds h1 h2 h3 h4 h5=>
  rw[restB_9 rfl]
  have:=listsB_len h5
  omega
end Rc
namespace Lg
open Rc
def putR (r:Rec):List UInt8:=Oct.putL (bodyB r).length 4++(Oct.putL (Oct.sumN (bodyB r)) 4++bodyB r)
theorem putR_len (r:Rec):(putR r).length=8+(bodyB r).length:=by
 unfold putR;simp only[List.length_append,Oct.putL_length];omega
def bodyAt (s:List UInt8)(a:Nat):List UInt8:=(s.drop (a+8)).take (Oct.getN s a 4)
def Is (s:List UInt8)(a:Nat):Prop:=
 a+8+Oct.getN s a 4≤s.length∧Oct.getN s (a+4) 4=Oct.sumN (bodyAt s a)∧Right (readM true (bodyAt s a))∧bodyB (readM true (bodyAt s a))=bodyAt s a
def Row (a:Nat):List Rec→Prop
 |[]=>True
 |r::l=>Right r∧r.lsn=(a:Int)+1∧Row (a+(putR r).length) l
def bytes (l:List Rec):List UInt8:=l.flatMap putR
theorem bytes_cons (r:Rec)(l:List Rec):bytes (r::l)=putR r++bytes l:=rfl
theorem bytes_append (l m:List Rec):bytes (l++m)=bytes l++bytes m:=List.flatMap_append
theorem row_append {a:Nat}{l m:List Rec}:Row a (l++m)↔Row a l∧Row (a+(bytes l).length) m:=by
 induction l generalizing a with
 |nil=>simp[Row,bytes]
 |cons r l ih=>
  show(Right r∧r.lsn=(a:Int)+1∧Row (a+(putR r).length) (l++m))↔(Right r∧r.lsn=(a:Int)+1∧Row (a+(putR r).length) l)∧_
  rw[ih,bytes_cons,List.length_append,Nat.add_assoc]
  constructor
  ·rintro⟨h1,h2,h3,h4⟩;exact⟨⟨h1,h2,h3⟩,h4⟩
  ·rintro⟨⟨h1,h2,h3⟩,h4⟩;exact⟨h1,h2,h3,h4⟩
def Zeros (s:List UInt8)(a k:Nat):Prop:=∀ i,a≤i→i<a+k→i<s.length→s[i]? =some 0
structure Lies (s:List UInt8) (l:List Rec):Prop where
 row:Row 0 l
 pre:s.take (bytes l).length=bytes l
 room:(bytes l).length≤s.length
 zero:Zeros s (bytes l).length 128
def mix (s n:List UInt8)(q:Nat):List UInt8:=s.take q++n.drop q
theorem mix_get {s n:List UInt8}{q:Nat}(h:s.length=n.length)(i:Nat):(mix s n q)[i]? =if i<q then s[i]? else n[i]? :=by
 unfold mix
 by_cases hq:q≤s.length
 ·have hl:(s.take q).length=q:=by rw[List.length_take];omega
  by_cases hi:i<q
  ·rw[if_pos hi,List.getElem?_append_left (by omega),List.getElem?_take,if_pos hi]
  ·rw[if_neg hi,List.getElem?_append_right (by omega),hl,List.getElem?_drop]
   congr 1;omega
 ·rw[List.take_of_length_le (by omega),List.drop_of_length_le (by omega),List.append_nil]
  split
  ·rfl
  ·rw[List.getElem?_eq_none (by omega),List.getElem?_eq_none (by omega)]
theorem mix_eq {s n:List UInt8}{q:Nat}(h:s.length=n.length)(he:∀ i,i<q→s[i]? =n[i]?):mix s n q=n:=by
 refine List.ext_getElem? fun i=>?_
 rw[mix_get h]
 split
 ·rename_i hi;exact he i hi
 ·rfl
def flat (L:List ByteArray):List UInt8:=L.flatMap (·.data.toList)
def Whole (L:List ByteArray):Prop:=∀ b∈L,b.size=128
theorem flat_nil:flat []=[]:=rfl
theorem flat_cons (b:ByteArray)(L:List ByteArray):flat (b::L)=b.data.toList++flat L:=rfl
theorem flat_append (L M:List ByteArray):flat (L++M)=flat L++flat M:=List.flatMap_append
theorem Whole.tail {b:ByteArray}{L:List ByteArray}(h:Whole (b::L)):b.data.toList.length=128∧Whole L:=
 ⟨by have:=h b (List.mem_cons_self ..);simpa using this,fun x hx=>h x (List.mem_cons_of_mem _ hx)⟩
theorem Whole.set {L:List ByteArray}(h:Whole L)(k:Nat){b:ByteArray}(hb:b.size=128):Whole (L.set k b):=fun x hx=>by
 rcases List.mem_or_eq_of_mem_set hx with h1|h1
 ·exact h x h1
 ·rw[h1];exact hb
theorem Whole.take {L:List ByteArray}(h:Whole L)(k:Nat):Whole (L.take k):=fun x hx=>h x (List.mem_of_mem_take hx)
theorem Whole.drop {L:List ByteArray}(h:Whole L)(k:Nat):Whole (L.drop k):=fun x hx=>h x (List.mem_of_mem_drop hx)
theorem flat_len {L:List ByteArray}(h:Whole L):(flat L).length=L.length*128:=by
 induction L with
 |nil=>rfl
 |cons b L ih=>
  obtain⟨h1,h2⟩:=h.tail
  rw[flat_cons,List.length_append,h1,ih h2,List.length_cons];omega
theorem flat_set {L:List ByteArray}(h:Whole L){b:ByteArray}(hb:b.size=128):∀ (k:Nat),k<L.length→∀ i,(flat (L.set k b))[i]? =if k*128≤i∧i<k*128+128 then b.data.toList[i-k*128]? else(flat L)[i]? :=by
 have hbl:b.data.toList.length=128:=by simpa using hb
 induction L with
 |nil=>intro k hk;simp at hk
 |cons c L ih=>
  obtain⟨h1,h2⟩:=h.tail
  intro k hk i
  cases k with
  |zero=>
   rw[List.set_cons_zero,flat_cons,flat_cons]
   by_cases hi:i<128
   ·rw[if_pos (by omega),List.getElem?_append_left (by omega),Nat.zero_mul,Nat.sub_zero]
   ·rw[if_neg (by omega),List.getElem?_append_right (by omega),List.getElem?_append_right (by omega),hbl,h1]
  |succ k=>
   rw[List.set_cons_succ,flat_cons,flat_cons]
   by_cases hi:i<128
   ·rw[if_neg (by omega),List.getElem?_append_left (by omega),List.getElem?_append_left (by omega)]
   ·rw[List.getElem?_append_right (by omega),h1,ih h2 k (by simpa using hk) (i-128)]
    by_cases hc:(k+1)*128≤i∧i<(k+1)*128+128
    ·rw[if_pos hc,if_pos (by omega),show i-128-k*128=i-(k+1)*128 by omega]
    ·rw[if_neg hc,if_neg (by omega),List.getElem?_append_right (by omega),h1]
theorem mix_step {L:List ByteArray}{s n:List UInt8}{k:Nat}{b:ByteArray}(hw:Whole L)(hb:b.size=128)(hk:k<L.length)(hlen:s.length=n.length)(h:flat L=mix s n ((k+1)*128))
 (hn:b.data.toList=(n.drop (k*128)).take 128):flat (L.set k b)=mix s n (k*128):=by
 refine List.ext_getElem? fun i=>?_
 rw[flat_set hw hb k hk,h,mix_get hlen,mix_get hlen]
 by_cases h1:i<k*128
 ·rw[if_neg (by omega),if_pos (by omega),if_pos h1]
 ·rw[if_neg h1]
  by_cases h2:i<k*128+128
  ·rw[if_pos (by omega),hn,List.getElem?_take,if_pos (by omega),List.getElem?_drop];congr 1;omega
  ·rw[if_neg (by omega),if_neg (by omega)]
theorem flat_drop {L:List ByteArray}(h:Whole L)(k:Nat):flat (L.drop k)=(flat L).drop (k*128):=by
 induction k generalizing L with
 |zero=>simp
 |succ k ih=>
  cases L with
  |nil=>simp[flat]
  |cons b L=>
   obtain⟨h1,h2⟩:=h.tail
   rw[List.drop_succ_cons,ih h2,flat_cons,show(k+1)*128=128+k*128 by omega,← List.drop_drop,List.drop_left' h1]
theorem flat_take {L:List ByteArray}(h:Whole L)(k:Nat):flat (L.take k)=(flat L).take (k*128):=by
 induction k generalizing L with
 |zero=>simp[flat]
 |succ k ih=>
  cases L with
  |nil=>simp[flat]
  |cons b L=>
   obtain⟨h1,h2⟩:=h.tail
   rw[List.take_succ_cons,flat_cons,ih h2,flat_cons,show(k+1)*128=128+k*128 by omega,List.take_append,h1,Nat.add_sub_cancel_left,List.take_of_length_le (l:=b.data.toList) (by omega)]
structure Dk where
 sectors:List ByteArray
 left:Int
 down:Bool
structure Lo where
 from_:Int
 n:Int
 end_:Int
 safe:Int
 tail:ByteArray
instance:DecidableEq Lo:=fun a b=>
 if h:a.from_=b.from_∧a.n=b.n∧a.end_=b.end_∧a.safe=b.safe∧a.tail=b.tail then
  .isTrue (by obtain⟨a1,a2,a3,a4,a5⟩:=a;obtain⟨b1,b2,b3,b4,b5⟩:=b;simp only at h;obtain⟨rfl,rfl,rfl,rfl,rfl⟩:=h;rfl)
 else .isFalse (fun e=>h (by subst e;exact⟨rfl,rfl,rfl,rfl,rfl⟩))
def zero128:ByteArray:=⟨(List.replicate 128 0).toArray⟩
theorem zero128_size:zero128.size=128:=by unfold zero128;show(List.replicate 128 (0:UInt8)).toArray.size=_;simp
def newD (n:Nat):Dk:=⟨List.replicate n zero128,-1,false⟩
def startD (d:Dk):Dk:={d with left:= -1,down:=false}
def hasD (d:Dk)(at_:Int):Prop:=0≤at_∧at_<(d.sectors.length:Int)
instance (d:Dk) (a:Int):Decidable (hasD d a):=by unfold hasD;exact inferInstance
def secAt (d:Dk)(at_:Int):ByteArray:=d.sectors[at_.toNat]?.getD ⟨#[]⟩
def readD (d:Dk)(at_:Int):ByteArray×Int:=if d.down then(⟨#[]⟩,20)else if hasD d at_ then(secAt d at_,0)else(⟨#[]⟩,1)
def writeD (d:Dk)(at_:Int)(b:ByteArray):Dk×Int:=
 if d.down then(d,20)else if ¬ (hasD d at_∧b.size=128)then(d,1)else if d.left=0 then({d with down:=true},20)
 else({d with sectors:=d.sectors.set at_.toNat b,left:=if 0<d.left then d.left-1 else d.left},0)
def pad128 (l:List UInt8):ByteArray:=⟨(l++List.replicate (128-l.length) 0).toArray⟩
theorem pad128_size {l:List UInt8}(h:l.length≤128):(pad128 l).size=128:=by
 unfold pad128
 show(l++List.replicate (128-l.length) (0:UInt8)).toArray.size=_
 simp;omega
def cutW (l:List UInt8):List ByteArray:=if _h:l=[]then[]else pad128 (l.take 128)::cutW (l.drop 128)
termination_by l.length
decreasing_by
 cases l with
 |nil=>contradiction
 |cons a l=>simp;omega
theorem cutW_nil:cutW []=[]:=by rw[cutW];simp
theorem cutW_cons {l:List UInt8}(h:l≠[]):cutW l=pad128 (l.take 128)::cutW (l.drop 128):=by
 conv=>lhs;rw[cutW]
 rw[dif_neg h]
def cutB (s:ByteArray):List ByteArray:=cutW s.data.toList
theorem cutW_size (n:Nat):∀ l:List UInt8,l.length≤n→∀ b∈cutW l,b.size=128:=by
 induction n with
 |zero=>
  intro l hl b hb
  rw[List.eq_nil_of_length_eq_zero (l:=l) (by omega),cutW_nil]at hb
  cases hb
 |succ n ih=>
  intro l hl b hb
  by_cases h:l=[]
  ·rw[h,cutW_nil]at hb;cases hb
  ·rw[cutW_cons h]at hb
   rcases List.mem_cons.1 hb with h1|h1
   ·rw[h1];exact pad128_size (by rw[List.length_take];omega)
   ·have h0:0<l.length:=by cases l with
     |nil=>contradiction
     |cons a l=>simp
    exact ih _ (by rw[List.length_drop];omega) b h1
theorem cutW_length (n:Nat):∀ l:List UInt8,l.length≤n→(cutW l).length=(l.length+127)/128:=by
 induction n with
 |zero=>
  intro l hl
  rw[List.eq_nil_of_length_eq_zero (l:=l) (by omega),cutW_nil];rfl
 |succ n ih=>
  intro l hl
  by_cases h:l=[]
  ·rw[h,cutW_nil];rfl
  ·have h0:0<l.length:=by cases l with
    |nil=>contradiction
    |cons a l=>simp
   rw[cutW_cons h,List.length_cons,ih _ (by rw[List.length_drop];omega),List.length_drop]
   omega
theorem cutB_length (s:ByteArray):(cutB s).length=(s.size+127)/128:=by
 unfold cutB;rw[cutW_length _ _ (Nat.le_refl _)];simp
theorem cutB_size (s:ByteArray):∀ b∈cutB s,b.size=128:=cutW_size _ _ (Nat.le_refl _)
def putAll (base:Int)(all:List ByteArray):Nat→Dk→Dk×Int
 |0,d=>(d,0)
 |i+1,d=>if(writeD d (base+(i:Int)) (all[i]?.getD ⟨#[]⟩)).2=0 then putAll base all i (writeD d (base+(i:Int)) (all[i]?.getD ⟨#[]⟩)).1 else writeD d (base+(i:Int)) (all[i]?.getD ⟨#[]⟩)
def firstS (l:Lo):Int:=(l.end_-(l.tail.size:Int))/128
def allS (l:Lo):List ByteArray:=if firstS l+(cutB l.tail).length<l.n then cutB l.tail++[zero128]else cutB l.tail
def forcedL (l:Lo):Lo:={l with safe:=l.end_,tail:=l.tail.extract (l.tail.size-(l.end_%128).toNat) l.tail.size}
def forceD (d:Dk)(l:Lo):Dk×Lo×Int:=
 if l.safe=l.end_ then(d,l,0)else
 let x:=putAll (l.from_+firstS l) (allS l) (allS l).length d
 if x.2=0 then(x.1,forcedL l,0)else(x.1,l,x.2)
open Classical in
noncomputable def appendD (l:Lo) (r:Rc.Rec):Lo×Int×Int:=
 let r':Rc.Rec:={r with lsn:=l.end_+1}
 if ¬ Rc.Right r' then(l,0,1)else
 if l.n*128-((putR r').length:Int)<l.end_ then(l,0,18)else
 ({l with end_:=l.end_+((putR r').length:Int),tail:=l.tail++⟨(putR r').toArray⟩},l.end_+1,0)
end Lg
namespace Go.Proofs.YtmfkhdhnbkambaaGreatDoor
open Go.RowKit
def strC (b:ByteArray):List Value:=[.string b]
theorem strC_len (b:ByteArray):(strC b).length=1:=rfl
theorem strC_map (l:List ByteArray):l.flatMap strC=l.map Value.string:=by
 induction l with
 |nil=>rfl
 |cons b l ih=>rw[List.flatMap_cons,ih];rfl
abbrev diskV (d:Lg.Dk)(A:Option Addr)(c:Nat):Value:=.agg #[.slice A d.sectors.length c,d.left,d.down]
structure DiskR (w:World) (d:Lg.Dk) (A:Option Addr) (c:Nat):Prop where
 secs:Reads w A c d.sectors.length (d.sectors.flatMap strC)
 small:d.sectors.length≤1000000
theorem DiskR.below {w w':World}{d:Lg.Dk}{A:Option Addr}{c:Nat}(h:DiskR w d A c)(hb:Below w.heap.size w w'):DiskR w' d A c:=⟨h.secs.below hb,h.small⟩
theorem has_any (d:Lg.Dk)(A:Option Addr)(c:Nat)(a:Int)(w:World):
 Calls Tryz.prog 213 #[diskV d A c,a] w fun e w'=>e= .returned (.bool (decide (Lg.hasD d a)))∧Below w.heap.size w w':=by
 obtain⟨L,left,down⟩:=d
 by_cases h0:0≤a
 ·by_cases h1:a<(L.length:Int)
  ·rw[decide_eq_true (show Lg.hasD ⟨L,left,down⟩ a from And.intro h0 h1)]
   go_enter Tryz.func213,Tryz.ntmps213
   go_wp2_with fail
   go_ret
   exact⟨by simp,allocB _ _⟩
  ·rw[decide_eq_false (show ¬ Lg.hasD ⟨L,left,down⟩ a from fun h=>h1 h.2)]
   go_enter Tryz.func213,Tryz.ntmps213
   go_wp2_with fail
   go_ret
   exact⟨by simp,allocB _ _⟩
 ·rw[decide_eq_false (show ¬ Lg.hasD ⟨L,left,down⟩ a from fun h=>h0 h.1)]
  go_enter Tryz.func213,Tryz.ntmps213
  go_wp2_with fail
  go_ret
  exact⟨by simp,allocB _ _⟩
theorem dread_any (d:Lg.Dk)(A:Option Addr)(c:Nat)(a:Int)(w:World)(h:DiskR w d A c):
 Calls Tryz.prog 186 #[diskV d A c,a] w fun e w'=>e= .returned (.tuple #[.string (Lg.readD d a).1,.int .i64 (Lg.readD d a).2])∧Below w.heap.size w w':=by
 have HH:=Hq (fun W=>has_any d A c a W)
 have HR:=Hq h.secs
 clear h
 unfold Lg.readD
 cases hd:d.down with
 |true=>
  obtain⟨L,left,down⟩:=d
  simp only at hd
  subst hd
  rw[if_pos rfl]
  dsimp only[diskV]
  go_enter Tryz.func186,Tryz.ntmps186
  go_wp2_with fail
  go_ret2
  exact⟨rfl,allocB _ _⟩
 |false=>
  rw[if_neg (by simp)]
  by_cases hh:Lg.hasD d a
  ·rw[if_pos hh]
   rw[decide_eq_true hh]at HH
   obtain⟨L,left,down⟩:=d
   simp only at hd
   subst hd
   unfold Lg.hasD at hh
   unfold Lg.secAt
   dsimp only[diskV]at hh HH HR ⊢
   obtain⟨h0,h1⟩:=hh
   obtain⟨k,rfl⟩:=Int.eq_ofNat_of_zero_le h0
   have hk:k<L.length:=by omega
   obtain⟨b,off,rfl,hc,hbl,hcell⟩:=read_at strC_len HR.out hk
   have q0:=hcell 0 _ rfl
   simp only[Nat.mul_one,Nat.add_zero]at q0
   rw[Int.toNat_natCast,List.getElem?_eq_getElem hk,Option.getD_some]
   generalize L[k]=x at q0 ⊢
   have Q0:=Hq q0
   clear q0 hcell h0
   go_enter Tryz.func186,Tryz.ntmps186
   go_upto_region 5 with(go_at_call 213;(with_reducible refine(HH.out _).mono ?_);rintro e w1 ⟨rfl,hb1⟩;have hbx:=blkCell (blkNew hb1))
   have q1:w1.cell? ⟨b,off+k,none⟩=some (.string x):=(joinB (allocB w _) hb1).cell (p:=⟨b,off+k,none⟩) hbl|>.trans Q0.out
   have HB1:=Hq (joinB (allocB w _) hb1)
   clear hb1
   go_wp2_with fail
   go_ret2
   exact⟨rfl,HB1.out⟩
  ·rw[if_neg hh]
   rw[decide_eq_false hh]at HH
   clear hh
   obtain⟨L,left,down⟩:=d
   simp only at hd
   subst hd
   dsimp only[diskV]at HH ⊢
   go_enter Tryz.func186,Tryz.ntmps186
   go_wp2_with (go_at_call 213;(with_reducible refine(HH.out _).mono ?_);rintro e w1 ⟨rfl,hb1⟩)
   go_ret2
   exact⟨rfl,joinB (allocB _ _) hb1⟩
def WriteOut (x:Lg.Dk×Int)(A:Option Addr)(w:World)(e:Ending)(w':World):Prop:=
 ∃ A' c',e= .returned (.tuple #[diskV x.1 A' c',x.2])∧DiskR w' x.1 A' c'∧(A'=A∨NewT w.heap.size w' 9 A')∧Below w.heap.size w w'
theorem clone_any (l:List ByteArray)(A:Option Addr)(c:Nat)(h0:0<l.length)(hl:l.length≤1000000)(w:World)(h:Reads w A c l.length (l.flatMap strC)):
 Calls Tryz.prog 214 #[.slice A l.length c] w fun e w'=>∃ v,e= .returned v∧w'.ownsRow w.heap.size 9 1 v l.length (l.map Value.string)∧Below w.heap.size w w':=by
 obtain⟨b,off,rfl,_,_,hcell⟩:=h h0
 refine(Tryz.slices_Clone_string b off l.length c l w (Nat.le_refl _) (by omega) (fun j hj=>?_)).mono ?_
 ·have h1:=hcell j (.string l[j]) (by rw[strC_map];simp[hj])
  rw[h1,List.getD_eq_getElem?_getD,List.getElem?_eq_getElem hj]
  rfl
 ·rintro e w' ⟨v,rfl,h1,_,h2⟩
  rw[List.take_length]at h1
  exact⟨v,rfl,h1,h2⟩
theorem write_keep {d:Lg.Dk}{A:Option Addr}{c:Nat}{w w':World}{dn:Bool}{k:Int}{x:Lg.Dk×Int}(hx:x=(⟨d.sectors,d.left,dn⟩,k))(h:DiskR w d A c)(hb:Below w.heap.size w w'):WriteOut x A w (.returned (.tuple #[.agg #[.slice A d.sectors.length c,d.left,dn],k])) w':=by
 subst hx
 exact⟨A,c,rfl,⟨h.secs.below hb,h.small⟩,.inl rfl,hb⟩
theorem write_new {L:List ByteArray}{A A':Option Addr}{n c:Nat}{w w':World}{left:Int}{x:Lg.Dk×Int}(hx:x=(⟨L,left,false⟩,0))(hn:L.length=n){vs:List Value}(h:Reads w' A' c n vs){M:List ByteArray}{k:Nat}{b:ByteArray}(hv:vs=(M.map Value.string).set k (.string b))(hL:L=M.set k b)(hl:L.length≤1000000)(hA:NewT w.heap.size w' 9 A')(hb:Below w.heap.size w w'):
 WriteOut x A w (.returned (.tuple #[.agg #[.slice A' n c,left,false],()])) w':=by
 subst hx hn
 refine⟨A',c,rfl,⟨?_,hl⟩,.inr hA,hb⟩
 rw[strC_map]
 show Reads w' A' c L.length (L.map Value.string)
 rw[hv]at h
 rw[hL,List.map_set]
 rw[hL]at h
 exact h
theorem dwrite_down (L:List ByteArray)(left:Int)(A:Option Addr)(c:Nat)(a:Int)(b:ByteArray)(x:Lg.Dk×Int)(hx:x=(⟨L,left,true⟩,20))(w:World)(h:DiskR w ⟨L,left,true⟩ A c):
 Calls Tryz.prog 179 #[.agg #[.slice A L.length c,left,true],a,b] w (WriteOut x A w):=by
 have HO:=Hq (fun w' hb=>write_keep (dn:=true) hx h (w':=w') hb)
 dsimp only at HO
 clear hx h
 go_enter Tryz.func179,Tryz.ntmps179
 go_upto_region 1 with fail
 have H0:=nW2 w #[.slice A L.length c,left,true] 28 #["s",(),false] 28
 have hc0:=blkCell H0.out.get0
 obtain⟨W0,hW0⟩:=exW H0
 rw[← hW0]at H0 hc0 ⊢
 clear hW0
 have HX0:=Hq (show W0.heap[w.heap.size]? =some (.cells #[.slice A L.length c,left,true] 28 (0,0))from(by have h:=H0.out.get0;simpa using h))
 go_wp2_with (first|(with_reducible refine lL HX0.out Tryz.underlying28 ?_)|(with_reducible refine lS #[.slice A L.length c,left,true] H0.out.get1 ?_))
 refine bodyPost_ret (v:=.tuple #[.agg #[.slice A L.length c,left,true],.int .i64 20]) (results_cell2 rfl _ _ rfl (load_whole (setRow_heap _ _ _ _ _ _ H0.out.get1) Tryz.underlying28 Kr Kr) rfl) rfl ?_
 exact HO.out _ ((H0.out.row 1 _ _ rfl).below)
theorem dwrite_arg (L:List ByteArray)(left:Int)(A:Option Addr)(c:Nat)(a:Int)(b:ByteArray)(hno:¬ (Lg.hasD ⟨L,left,false⟩ a∧b.size=128))(x:Lg.Dk×Int)(hx:x=(⟨L,left,false⟩,1))(w:World)(h:DiskR w ⟨L,left,false⟩ A c):
 Calls Tryz.prog 179 #[.agg #[.slice A L.length c,left,false],a,b] w (WriteOut x A w):=by
 have HO:=Hq (fun w' hb=>write_keep (dn:=false) hx h (w':=w') hb)
 dsimp only at HO
 have HH:=Hq (fun W=>has_any ⟨L,left,false⟩ A c a W)
 clear hx h
 by_cases hh:Lg.hasD ⟨L,left,false⟩ a
 ·rw[decide_eq_true hh]at HH
  have hs:¬ b.size=128:=fun e=>hno ⟨hh,e⟩
  have hs2:((b.size:Int)==128)=false:=by simp;omega
  have hs3:((b.size:Int) != 128)=true:=by simp;omega
  have hs4:(b.size==128)=false:=by simp;omega
  have hs5:(b.size != 128)=true:=by simp;omega
  clear hno hh
  dsimp only[diskV]at HH
  go_enter Tryz.func179,Tryz.ntmps179
  go_upto_region 1 with fail
  have H0:=nW2 w #[.slice A L.length c,left,false] 28 #["s",(),false] 28
  have hc0:=blkCell H0.out.get0
  obtain⟨W0,hW0⟩:=exW H0
  rw[← hW0]at H0 hc0 ⊢
  clear hW0
  have HX0:=Hq (show W0.heap[w.heap.size]? =some (.cells #[.slice A L.length c,left,false] 28 (0,0))from(by have h:=H0.out.get0;simpa using h))
  go_upto_region 4 with(first|(with_reducible refine lL HX0.out Tryz.underlying28 ?_)|(go_at_call 213;(with_reducible refine(HH.out _).mono ?_);rintro e w1 ⟨rfl,hb1⟩;have H1:=Hq (H0.out.step hb1);clear hb1;have hc1:=blkCell H1.out.get0))
  have HX1:=Hq (show w1.heap[w.heap.size]? =some (.cells #[.slice A L.length c,left,false] 28 (0,0))from(by have h:=H1.out.get0;simpa using h))
  clear hs hs2 hs3 hs4 hs5
  go_wp2_with (first|(with_reducible refine lL HX1.out Tryz.underlying28 ?_)|(with_reducible refine lS #[.slice A L.length c,left,false] H1.out.get1 ?_))
  refine bodyPost_ret (v:=.tuple #[.agg #[.slice A L.length c,left,false],.int .i64 1]) (results_cell2 rfl _ _ rfl (load_whole (setRow_heap _ _ _ _ _ _ H1.out.get1) Tryz.underlying28 Kr Kr) rfl) rfl ?_
  exact HO.out _ ((H1.out.row 1 _ _ rfl).below)
 ·rw[decide_eq_false hh]at HH
  clear hno hh
  dsimp only[diskV]at HH
  go_enter Tryz.func179,Tryz.ntmps179
  go_upto_region 1 with fail
  have H0:=nW2 w #[.slice A L.length c,left,false] 28 #["s",(),false] 28
  have hc0:=blkCell H0.out.get0
  obtain⟨W0,hW0⟩:=exW H0
  rw[← hW0]at H0 hc0 ⊢
  clear hW0
  have HX0:=Hq (show W0.heap[w.heap.size]? =some (.cells #[.slice A L.length c,left,false] 28 (0,0))from(by have h:=H0.out.get0;simpa using h))
  go_upto_region 4 with(first|(with_reducible refine lL HX0.out Tryz.underlying28 ?_)|(go_at_call 213;(with_reducible refine(HH.out _).mono ?_);rintro e w1 ⟨rfl,hb1⟩;have H1:=Hq (H0.out.step hb1);clear hb1;have hc1:=blkCell H1.out.get0))
  have HX1:=Hq (show w1.heap[w.heap.size]? =some (.cells #[.slice A L.length c,left,false] 28 (0,0))from(by have h:=H1.out.get0;simpa using h))
  go_wp2_with (first|(with_reducible refine lL HX1.out Tryz.underlying28 ?_)|(with_reducible refine lS #[.slice A L.length c,left,false] H1.out.get1 ?_))
  refine bodyPost_ret (v:=.tuple #[.agg #[.slice A L.length c,left,false],.int .i64 1]) (results_cell2 rfl _ _ rfl (load_whole (setRow_heap _ _ _ _ _ _ H1.out.get1) Tryz.underlying28 Kr Kr) rfl) rfl ?_
  exact HO.out _ ((H1.out.row 1 _ _ rfl).below)
theorem dwrite_out (L:List ByteArray)(A:Option Addr)(c:Nat)(a:Int)(b:ByteArray)(hh:Lg.hasD ⟨L,0,false⟩ a)(hs:b.size=128)(x:Lg.Dk×Int)(hx:x=(⟨L,0,true⟩,20))(w:World)(h:DiskR w ⟨L,0,false⟩ A c):
 Calls Tryz.prog 179 #[.agg #[.slice A L.length c,(),false],a,b] w (WriteOut x A w):=by
 have HO:=Hq (fun w' hb=>write_keep (dn:=true) hx h (w':=w') hb)
 dsimp only at HO
 have HH:=Hq (fun W=>has_any ⟨L,0,false⟩ A c a W)
 rw[decide_eq_true hh]at HH
 have hs1:((b.size:Int)==128)=true:=by simp;omega
 have hs2:((b.size:Int) != 128)=false:=by simp;omega
 have hs3:(b.size==128)=true:=by simp;omega
 have hs4:(b.size != 128)=false:=by simp;omega
 clear hx h hs hh
 dsimp only[diskV]at HH
 go_enter Tryz.func179,Tryz.ntmps179
 go_upto_region 1 with fail
 have H0:=nW2 w #[.slice A L.length c,(),false] 28 #["s",(),false] 28
 have hc0:=blkCell H0.out.get0
 obtain⟨W0,hW0⟩:=exW H0
 rw[← hW0]at H0 hc0 ⊢
 clear hW0
 have HX0:=Hq (show W0.heap[w.heap.size]? =some (.cells #[.slice A L.length c,(),false] 28 (0,0))from(by have h:=H0.out.get0;simpa using h))
 go_upto_region 5 with(first|(with_reducible refine lL HX0.out Tryz.underlying28 ?_)|(go_at_call 213;(with_reducible refine(HH.out _).mono ?_);rintro e w1 ⟨rfl,hb1⟩;have H1:=Hq (H0.out.step hb1);clear hb1;have hc1:=blkCell H1.out.get0))
 clear hs1 hs2 hs3 hs4
 have hz1:=blkFrozen H1.out.get0
 go_upto_region 7 with fail
 have HX2:=Hq (show(w1.setCell ⟨w.heap.size,2,none⟩ (.bool true)).heap[w.heap.size]? =some (.cells #[.slice A L.length c,(),true] 28 (0,0))from by have h:=(H1.out.set 0 2 (.bool true) _ rfl).get 0 _ rfl;simpa using h)
 have H2:=Hq (H1.out.set 0 2 (.bool true) _ rfl)
 go_wp2_with (first|(with_reducible refine lL HX2.out Tryz.underlying28 ?_)|(with_reducible refine lS #[.slice A L.length c,(),true] H2.out.get1 ?_))
 refine bodyPost_ret (v:=.tuple #[.agg #[.slice A L.length c,(),true],.int .i64 20]) (results_cell2 rfl _ _ rfl (load_whole (setRow_heap _ _ _ _ _ _ H2.out.get1) Tryz.underlying28 Kr Kr) rfl) rfl ?_
 exact HO.out _ ((H2.out.row 1 _ _ rfl).below)
theorem dwrite_on (L:List ByteArray)(left:Int)(hl0:left≠0)(hlb: -9223372036854775808≤left∧left≤9223372036854775807)(A:Option Addr)(c:Nat)(k:Nat)(b:ByteArray)(hk:k<L.length)(hs:b.size=128)(x:Lg.Dk×Int)(hx:x=(⟨L.set k b,if 0<left then left-1 else left,false⟩,0))(w:World)(h:DiskR w ⟨L,left,false⟩ A c):
 Calls Tryz.prog 179 #[.agg #[.slice A L.length c,left,false],.int .i64 (k:Int),b] w (WriteOut x A w):=by
 have HH:=Hq (fun W=>has_any ⟨L,left,false⟩ A c k W)
 rw[decide_eq_true (show Lg.hasD ⟨L,left,false⟩ (k:Int)from⟨by omega,by show(k:Int)<(L.length:Int);omega⟩)]at HH
 have hs1:((b.size:Int)==128)=true:=by simp;omega
 have hs2:((b.size:Int) != 128)=false:=by simp;omega
 have hs3:(b.size==128)=true:=by simp;omega
 have hs4:(b.size != 128)=false:=by simp;omega
 have hl1:(left==0)=false:=by simpa using hl0
 have hlen:L.length≤1000000:=h.small
 have HC:=Hq (fun W (hb:Below w.heap.size w W)=>clone_any L A c (by omega) hlen W (h.secs.below hb))
 have HX:=Hq hx
 have hkI:(k:Int)<(L.length:Int):=by omega
 clear hx h hs
 dsimp only[diskV]at HH
 go_enter Tryz.func179,Tryz.ntmps179
 go_upto_region 1 with fail
 have H0:=nW2 w #[.slice A L.length c,left,false] 28 #["s",(),false] 28
 have hc0:=blkCell H0.out.get0
 obtain⟨W0,hW0⟩:=exW H0
 rw[← hW0]at H0 hc0 ⊢
 clear hW0
 have HX0:=Hq (show W0.heap[w.heap.size]? =some (.cells #[.slice A L.length c,left,false] 28 (0,0))from(by have h:=H0.out.get0;simpa using h))
 go_upto_region 8 with(first|(with_reducible refine lL HX0.out Tryz.underlying28 ?_)|(go_at_call 213;(with_reducible refine(HH.out _).mono ?_);rintro e w1 ⟨rfl,hb1⟩;have H1:=Hq (H0.out.step hb1);clear hb1;have hc1:=blkCell H1.out.get0))
 clear hs1 hs2 hs3 hs4 hl1 HH hc0 HX0 H0
 go_upto_region 9 with(first|(go_at_call 214;(with_reducible refine(HC.out _ H1.out.below).mono ?_);rintro e w2 ⟨v,rfl,ho,hb2⟩;obtain⟨A2,c2,rfl⟩:=ownLen ho;have H2:=Hq (H1.out.step hb2);have hz2:=blkFrozen H2.out.get0;have hc2:=blkCell H2.out.get0;clear hb2 hc1))
 clear hc2 hz2
 have hsz:=H1.out.lt (i:=1) (by simp)
 have ho2:=ownSet ho ⟨w.heap.size,0,none⟩ (.slice A2 L.length c2) (by show w.heap.size<_;omega)
 obtain⟨g,cap,hv,hg,hgl,hcap,hcl,hfz,hset⟩:=ownAt ho2 hk
 injection hv with hv1 hv2 hv3
 subst hv1 hv3
 have H3:=Hq (H2.out.set 0 0 (.slice (some ⟨g,0,none⟩) L.length c2) _ rfl)
 simp only[Nat.add_zero]at H3
 obtain⟨W3,hW3⟩:=ex (w2.setCell ⟨w.heap.size,0,none⟩ (.slice (some ⟨g,0,none⟩) L.length c2))
 rw[← hW3]at H3 hcl hfz hset hgl ⊢
 have hc3:=blkCell H3.out.get0
 rw[List.getElem?_eq_getElem (by simpa using hk)]at hcl
 simp only[List.getElem_map]at hcl
 have HSET:=Hq hset
 clear hW3 H2 ho ho2 hset
 go_upto_region 10 with fail
 have hgw:w.heap.size+2≤g:=by omega
 have H4:=Hq (H3.out.under (M:=g) (by show w.heap.size+2≤g;exact hgw) ((Below.refl g W3).setCell (p:=⟨g,k,none⟩) (Nat.le_refl g) (.string b)))
 have HO4:=Hq (HSET.out (.string b))
 obtain⟨W4,hW4⟩:=ex (W3.setCell ⟨g,k,none⟩ (.string b))
 rw[← hW4]at H4 HO4 ⊢
 have hc4:=blkCell H4.out.get0
 have hz4:=blkFrozen H4.out.get0
 clear hW4 hc3 hcl hfz HSET
 by_cases hp:0<left
 ·rw[if_pos hp]at HX
  have hwl:IntKind.i64.wrap (left-1)=left-1:=IntWalk.i64_in _ (by omega)
  go_upto_region 12 with fail
  have H5:=Hq (H4.out.set 0 1 (.int .i64 (left-1)) _ rfl)
  have HX5:=Hq (show(W4.setCell ⟨w.heap.size,1,none⟩ (.int .i64 (left-1))).heap[w.heap.size]? =some (.cells #[.slice (some ⟨g,0,none⟩) L.length c2,.int .i64 (left-1),false] 28 (0,0))from by have h:=H5.out.get0;simpa using h)
  have HO5:=Hq (ownSet HO4.out ⟨w.heap.size,1,none⟩ (.int .i64 (left-1)) (by show w.heap.size<_;omega))
  go_wp2_with (first|(with_reducible refine lL HX5.out Tryz.underlying28 ?_)|(with_reducible refine lS #[.slice (some ⟨g,0,none⟩) L.length c2,.int .i64 (left-1),false] H5.out.get1 ?_))
  refine bodyPost_ret (v:=.tuple #[.agg #[.slice (some ⟨g,0,none⟩) L.length c2,.int .i64 (left-1),false],()]) (results_cell2 rfl _ _ rfl (load_whole (setRow_heap _ _ _ _ _ _ H5.out.get1) Tryz.underlying28 Kr Kr) rfl) rfl ?_
  exact write_new HX.out (by rw[List.length_set]) ((own_reads HO5.out).offRow _ _ (fun _ ad e=>(by injection e with e;rw[← e];show g≠w.heap.size+1;omega))) rfl rfl (by rw[List.length_set];exact hlen) (((NewT.own HO5.out).row _ _).mono (by omega)) ((H5.out.row 1 _ _ rfl).below)
 ·rw[if_neg hp]at HX
  have HX4:=Hq (show W4.heap[w.heap.size]? =some (.cells #[.slice (some ⟨g,0,none⟩) L.length c2,left,false] 28 (0,0))from(by have h:=H4.out.get0;simpa using h))
  go_wp2_with (first|(with_reducible refine lL HX4.out Tryz.underlying28 ?_)|(with_reducible refine lS #[.slice (some ⟨g,0,none⟩) L.length c2,left,false] H4.out.get1 ?_))
  refine bodyPost_ret (v:=.tuple #[.agg #[.slice (some ⟨g,0,none⟩) L.length c2,left,false],()]) (results_cell2 rfl _ _ rfl (load_whole (setRow_heap _ _ _ _ _ _ H4.out.get1) Tryz.underlying28 Kr Kr) rfl) rfl ?_
  exact write_new HX.out (by rw[List.length_set]) ((own_reads HO4.out).offRow _ _ (fun _ ad e=>(by injection e with e;rw[← e];show g≠w.heap.size+1;omega))) rfl rfl (by rw[List.length_set];exact hlen) (((NewT.own HO4.out).row _ _).mono (by omega)) ((H4.out.row 1 _ _ rfl).below)
theorem dwrite_any (d:Lg.Dk)(hlb: -9223372036854775808≤d.left∧d.left≤9223372036854775807)(A:Option Addr)(c:Nat)(a:Int)(b:ByteArray)(w:World)(h:DiskR w d A c):
 Calls Tryz.prog 179 #[diskV d A c,a,b] w (WriteOut (Lg.writeD d a b) A w):=by
 obtain⟨L,left,down⟩:=d
 cases down with
 |true=>exact dwrite_down L left A c a b _ (by unfold Lg.writeD;rw[if_pos rfl]) w h
 |false=>
  by_cases h1:Lg.hasD ⟨L,left,false⟩ a∧b.size=128
  ·by_cases h2:left=0
   ·subst h2
    exact dwrite_out L A c a b h1.1 h1.2 _ (by unfold Lg.writeD;rw[if_neg (by simp),if_neg (fun hn=>hn h1),if_pos rfl]) w h
   ·obtain⟨k,rfl⟩:=Int.eq_ofNat_of_zero_le h1.1.1
    have hk:k<L.length:=by have h3:=h1.1.2;simp only at h3;omega
    exact dwrite_on L left h2 hlb A c k b hk h1.2 _ (by unfold Lg.writeD;rw[if_neg (by simp),if_neg (fun hn=>hn h1),if_neg h2];simp) w h
  ·exact dwrite_arg L left A c a b h1 _ (by unfold Lg.writeD;rw[if_neg (by simp),if_pos h1]) w h
theorem make_zeros (n:Nat)(hn:n≤4096)(W:World):(Instr.makeSlice 112 (.int .i64 (n:Int)) (.int .i64 (n:Int))).run Tryz.prog W= .ok (.slice (some ⟨W.heap.size,0,none⟩) n n) (W.alloc (.cells (madeCells #[Value.int .u8 0] n) 5)):=by
 obtain⟨i0,hi,hz0,hz1,hz2⟩:=info_parts info_byte
 have h:=run_make (P:=Tryz.prog) W 112 5 i0 (.int .u8 0) Tryz.underlying112 hi hz0 .i64 .i64 n n (by omega) (by omega) (by rw[hz2];omega) (by omega)
 rw[hz1,Int.toNat_natCast,Nat.mul_one]at h
 exact h
theorem zeros_back (n:Nat)(W:World):(convert 112 9 (.slice (some ⟨W.heap.size,0,none⟩) n n)).run Tryz.prog (W.alloc (.cells (madeCells #[Value.int .u8 0] n) 5))= .ok (.string ⟨(List.replicate n 0).toArray⟩) (W.alloc (.cells (madeCells #[Value.int .u8 0] n) 5)):=by
 have h:=run_convert_bytes_back (P:=Tryz.prog) (W.alloc (.cells (madeCells #[Value.int .u8 0] n) 5)) 112 9 5 ⟨W.heap.size,0,none⟩ n (List.replicate n 0) Tryz.underlying112 Tryz.underlying5 Tryz.underlying9 (fun j hj=>by
  have hj':j<n:=by simpa using hj
  have ha:(⟨W.heap.size,0,none⟩:Addr).add j=⟨W.heap.size,j,none⟩:=by
   unfold Addr.add;split
   ·rename_i h;rw[h]
   ·simp
  rw[ha,World.cell?_alloc_new]
  simp[madeCells,hj',Nat.mod_one])
 rw[List.length_replicate]at h
 exact h
theorem info_string:(Tryz.prog.info? 9).map (fun i=>(i.zero,i.size,i.bytes))=some (some (.string ⟨#[]⟩),1,16):=by kernel_rfl
theorem zeros_any (w:World):
 Calls Tryz.prog 68 #[] w fun e w'=>e= .returned (.string Lg.zero128)∧Below w.heap.size w w':=by
 have hmk:=make_zeros 128 (by omega)
 have hcv:=zeros_back 128
 unfold Lg.zero128
 generalize hR:(⟨(List.replicate 128 0).toArray⟩:ByteArray)=R at hcv ⊢
 clear hR
 have hmk2:∀ W:World,(Instr.makeSlice 112 (.int .i64 128) (.int .i64 128)).run Tryz.prog W= .ok (.slice (some ⟨W.heap.size,0,none⟩) 128 128) (W.alloc (.cells (madeCells #[Value.int .u8 0] 128) 5)):=hmk
 clear hmk
 go_enter Tryz.func68,Tryz.ntmps68
 go_wp2_with fail
 go_ret
 exact⟨rfl,allocB _ _⟩
def NewOut (d:Lg.Dk)(w:World)(e:Ending)(w':World):Prop:=
 ∃ A c,e= .returned (.tuple #[diskV d A c,()])∧DiskR w' d A c∧NewT w.heap.size w' 9 A∧Below w.heap.size w w'
theorem dnew_any (n:Nat)(h1:1≤n)(h2:n≤65536)(w:World):
 Calls Tryz.prog 27 #[.int .i64 (n:Int)] w (NewOut (Lg.newD n) w):=by
 have HZ:=Hq (fun W=>zeros_any W)
 have HF:=Hq (fun v c A w' (ho:OwnL strC 1 9 (w.heap.size+2) w' v (List.replicate n Lg.zero128)) (hv:v= .slice A n c) (hr:Reads w' A c n ((List.replicate n Lg.zero128).flatMap strC)) (hb:Below w.heap.size w w')=>show NewOut (Lg.newD n) w (.returned (.tuple #[.agg #[.slice A n c,.int .i64 (-1),false],()])) w' from by
  refine⟨A,c,?_,⟨?_,?_⟩,?_,hb⟩
  ·unfold diskV Lg.newD;simp
  ·unfold Lg.newD;simpa using hr
  ·unfold Lg.newD;simp;omega
  ·unfold OwnL at ho
   rw[List.length_replicate,hv]at ho
   exact(NewT.own ho).mono (by omega))
 generalize Lg.zero128=z at HZ HF ⊢
 generalize NewOut (Lg.newD n) w=Q at HF ⊢
 have h1':¬ (n:Int)<1:=by omega
 have h2':(n:Int)≤65536:=by omega
 go_enter Tryz.func27,Tryz.ntmps27
 go_upto_region 4 with fail
 have H0:=nW2 w #["s",(),false] 28 #["s",.int .i64 (-1),false] 28
 obtain⟨W0,hW0⟩:=exW H0
 rw[← hW0]at H0 ⊢
 clear hW0
 go_wp2_with fail
 go_loopw [5] (fun i wr=>∃ (k:Nat) (v:Value),k≤n∧i= .int .i64 (k:Int)∧BxL w.heap.size w [(#["s",(),false],28),(#[v,.int .i64 (-1),false],28)] wr∧OwnL strC 1 9 (w.heap.size+2) wr v (List.replicate k z)) (fun i _=>n-(intOf i).toNat)
 case atStart=>exact⟨0,.slice none 0 0,Nat.zero_le _,rfl,H0.out,ownNil _ _ _ _⟩
 case round=>
  obtain⟨k,v,hk,rfl,hbx,hown⟩:=hrel
  have HB:=Hq hbx
  have hO:wr.ownsRow (w.heap.size+2) 9 1 v k ((List.replicate k z).flatMap strC):=by
   have h:=hown
   unfold OwnL at h
   rwa[List.length_replicate]at h
  have hsz:=hbx.lt (i:=1) (by simp)
  obtain⟨A,c,rfl⟩:=ownLen hO
  clear hbx hown
  by_cases hlt:k<n
  ·go_upto_region 7 with fail
   have HBd:=Hq (HB.out.drew)
   have hO0:=ownBelow hO (Below.refl _ wr).drew
   refine wp_region_Z (S:=(fun u=>u.heap[w.heap.size+1]? =some (.cells #[.slice A k c,.int .i64 (-1),false] 28 (0,0)))) 6 Kr ?_ (fun hHeld=>?_)
   ·first|exact hSn|exact HBd.out.get1
   refine tzP 0 [6] ?_
   refine tzP 1 [6] ?_
   refine wpAnyZ_ready (rs:=[2]) Kr (by simp) ?_
   refine AllReadyZ.cons (o:={dst:=some 21,op:=_,type:=_,pos:=_,after:=_,guard:=_}) rfl (fun K hK=>?_) ?_
   rotate_left
   ·exact AllReadyZ.nil
   go_simp
   refine(HZ.out _).mono ?_;rintro e w1 ⟨rfl,hb1⟩;have hB1:=HBd.out.step hb1;have hSn:=hB1.get 1 _ rfl;have hO1:=ownBelow hO0 hb1;try go_simp
   refine hKo hK (fun hHeld=>?_) (by first|exact hSn|exact HBd.out.get1)
   clear hK K
   refine wpAnyZ_ready (rs:=[3]) Kr (by simp) ?_
   refine AllReadyZ.cons (o:={dst:=some 22,op:=_,type:=_,pos:=_,after:=_,guard:=_}) rfl (fun K hK=>?_) ?_
   rotate_left
   ·exact AllReadyZ.nil
   go_simp
   have hB2:=hB1.step (allocB w1 (.cells #[z] 9));have hSn:=hB2.get 1 _ rfl;have hO2:=ownBelow hO1 (allocB w1 (.cells #[z] 9));have hG:=heap_alloc_new w1 (.cells #[z] 9)
   refine hKo hK (fun hHeld=>?_) (by first|exact hSn|exact HBd.out.get1)
   clear hK K
   refine wpAnyZ_ready (rs:=[4]) Kr (by simp) ?_
   refine AllReadyZ.cons (o:={dst:=some 23,op:=_,type:=_,pos:=_,after:=_,guard:=_}) rfl (fun K hK=>?_) ?_
   rotate_left
   ·exact AllReadyZ.nil
   refine wantedIf (by rfl) ?_
   refine wp_push _ (.tmp 20) (.tmp 22) 26 9 Tryz.underlying26 info_string rfl (by omega) (by omega) rfl (w.heap.size+2) _ k ((List.replicate k z).flatMap strC) rfl hO2 w1.heap.size (strC z) 9 rfl hG rfl (by simp[strC,Value.oneCell']) (by omega) (by have h1:=hB2.lt (i:=1) (by simp);omega) ?_
   intro v7 w7 ho hg hb
   obtain⟨A7,c7,rfl⟩:=ownLen ho
   have hB7:=hB2.under (M:=w.heap.size+2) (Nat.le_refl _) hb
   have hSn:=hB7.get 1 _ rfl
   have hcx7:=blkCell (hB7.get 1 _ rfl)
   have hz7:=blkFrozen (hB7.get 1 _ rfl)
   refine hKo hK (fun hHeld=>?_) (by first|exact hSn|exact HBd.out.get1)
   clear hK K
   refine tzP 5 [6] ?_
   refine wpAnyZ_ready (rs:=[6]) Kr (by simp) ?_
   refine AllReadyZ.last (o:={dst:=none,op:=_,type:=_,pos:=_,after:=_,guard:=_}) rfl Kr (fun K hK=>?_) ?_
   rotate_left
   ·exact AllReadyZ.nil
   go_simp
   refine hK.out _ _ ?_
   clear hK K
   try simp only[Act.put,pS]
   refine wpAnyZ_done Kr ?_ _
   have HB8:=Hq (hB7.set 1 0 (.slice A7 (k+1) c7) _ rfl)
   have HO8:=Hq (ownSet ho ⟨w.heap.size+1,0,none⟩ (.slice A7 (k+1) c7) (by show w.heap.size+1<_;omega))
   clear hO hO0 hO1 hO2 ho hg hb hB1 hB2 hB7 hSn hcx7 hz7 hG hHeld HBd HB
   go_wp2_with fail
   go_roundw
   case rel=>exact⟨k+1,_,by omega,by go_num,(by have h:=HB8.out;first|exact h|simpa using h),(by
    have h:=HO8.out
    unfold OwnL
    rw[List.length_replicate,List.replicate_succ',List.flatMap_append]
    simpa using h)⟩
   case measure=>simp[intOf];omega
  ·obtain rfl:k=n:=by omega
   have HX1:=Hq HB.out.get1
   have HX0:=Hq (show wr.heap[w.heap.size]? =some (.cells #["s",(),false] 28 (0,0))from by have h:=HB.out.get0;simpa using h)
   go_wp2_with (first|(with_reducible refine lL HX1.out Tryz.underlying28 ?_)|(with_reducible refine lS #[.slice A k c,.int .i64 (-1),false] HX0.out ?_))
   refine bodyPost_ret (v:=.tuple #[.agg #[.slice A k c,.int .i64 (-1),false],()]) (results_cell2 rfl _ _ rfl (load_whole (setRow_heap _ _ _ _ _ _ HX0.out) Tryz.underlying28 Kr Kr) rfl) rfl ?_
   have ho9:=ownRowOff hO w.heap.size #[.slice A k c,.int .i64 (-1),false] (by omega)
   exact HF.out _ c A _ (by unfold OwnL;rw[List.length_replicate];exact ho9) rfl (own_reads ho9) (by have h:=(HB.out.row 0 #[.slice A k c,.int .i64 (-1),false] _ rfl).below;simpa using h)
theorem start_any (d:Lg.Dk)(A:Option Addr)(c:Nat)(w:World):
 Calls Tryz.prog 40 #[diskV d A c] w fun e w'=>e= .returned (diskV (Lg.startD d) A c)∧Below w.heap.size w w':=by
 obtain⟨L,left,down⟩:=d
 unfold Lg.startD
 dsimp only[diskV]
 go_enter Tryz.func40,Tryz.ntmps40
 go_upto_region 1 with fail
 have H0:=nW2 w #[.slice A L.length c,left,down] 28 #["s",(),false] 28
 obtain⟨W0,hW0⟩:=exW H0
 rw[← hW0]at H0 ⊢
 have hc0:=blkCell H0.out.get0
 have hz0:=blkFrozen H0.out.get0
 clear hW0
 go_upto_region 3 with fail
 have H1:=Hq ((H0.out.set 0 1 (.int .i64 (-1)) _ rfl).set 0 2 (.bool false) _ rfl)
 have HX1:=Hq (show((W0.setCell ⟨w.heap.size,1,none⟩ (.int .i64 (-1))).setCell ⟨w.heap.size,2,none⟩ (.bool false)).heap[w.heap.size]? =some (.cells #[.slice A L.length c,.int .i64 (-1),false] 28 (0,0))from by have h:=H1.out.get0;simpa using h)
 go_wp2_with (first|(with_reducible refine lL HX1.out Tryz.underlying28 ?_)|(with_reducible refine lS #[.slice A L.length c,.int .i64 (-1),false] H1.out.get1 ?_))
 refine bodyPost_ret (v:=.agg #[.slice A L.length c,.int .i64 (-1),false]) (results_cell rfl _ _ rfl (load_whole (setRow_heap _ _ _ _ _ _ H1.out.get1) Tryz.underlying28 Kr Kr)) rfl ?_
 exact⟨rfl,(H1.out.row 1 _ _ rfl).below⟩
end Go.Proofs.YtmfkhdhnbkambaaGreatDoor
namespace Lg
theorem repeat_zero (n:Nat):(⟨(Go.Lib.repeatL [(0:UInt8)] n).toArray⟩:ByteArray)=⟨(List.replicate n 0).toArray⟩:=by
 congr 2
 induction n with
 |zero=>rfl
 |succ n ih=>
  rw[List.replicate_succ,← ih]
  rfl
theorem pad_join (t:ByteArray)(m:Nat)(hm:m=min t.size 128):t.extract 0 m++(⟨(Go.Lib.repeatL [(0:UInt8)] (128-m)).toArray⟩:ByteArray)=pad128 (t.data.toList.take 128):=by
 rw[repeat_zero]
 unfold pad128
 apply ByteArray.ext
 rw[ByteArray.data_append]
 apply Array.toList_inj.1
 rw[Array.toList_append]
 have e:(t.extract 0 m).data.toList=t.data.toList.take 128:=by
  simp only[ByteArray.data_extract,Array.toList_extract,List.extract_eq_take_drop,Nat.sub_zero,List.drop_zero]
  have hl:t.data.toList.length=t.size:=by simp
  by_cases h:t.size≤128
  ·rw[List.take_of_length_le (by omega),List.take_of_length_le (by omega)]
  ·rw[show m=128 by omega]
 have hl:(t.data.toList.take 128).length=m:=by rw[List.length_take];simp;omega
 rw[e,hl]
theorem cut_next (t:ByteArray)(m:Nat)(hm:m=min t.size 128)(h0:0<t.size):cutB t=pad128 (t.data.toList.take 128)::cutB (t.extract m t.size):=by
 unfold cutB
 have h1:t.data.toList≠[]:=fun e=>by
  have hl:t.data.toList.length=t.size:=by simp
  rw[e,List.length_nil]at hl
  omega
 rw[cutW_cons h1]
 congr 2
 simp only[ByteArray.data_extract,Array.toList_extract,List.extract_eq_take_drop]
 have hl:t.data.toList.length=t.size:=by simp
 rw[List.take_of_length_le (by rw[List.length_drop];omega)]
 by_cases h:t.size≤128
 ·rw[List.drop_of_length_le (i:=128) (by omega),List.drop_of_length_le (i:=m) (by omega)]
 ·rw[show m=128 by omega]
theorem cut_none (t:ByteArray)(h0:t.size=0):cutB t=[]:=by
 unfold cutB
 have h1:t.data.toList=[]:=List.eq_nil_of_length_eq_zero (by simpa using h0)
 rw[h1,cutW_nil]
end Lg
namespace Go.Proofs.YtmfkhdhnbkambaaGreatDoor
open Go.RowKit
abbrev logV (l:Lg.Lo):Value:=.agg #[l.from_,l.n,l.end_,l.safe,l.tail]
def CutOut (l:List ByteArray)(w:World)(e:Ending)(w':World):Prop:=∃ v,e= .returned v∧OwnL strC 1 9 w.heap.size w' v l∧Below w.heap.size w w'
theorem cut_any (s:ByteArray)(hs:s.size≤1000000)(w:World):
 Calls Tryz.prog 178 #[s] w (CutOut (Lg.cutB s) w):=by
 have HF:=Hq (fun v w' (ho:OwnL strC 1 9 w.heap.size w' v (Lg.cutB s)) (hb:Below w.heap.size w w')=>show CutOut (Lg.cutB s) w (.returned v) w' from⟨v,rfl,ho,hb⟩)
 generalize CutOut (Lg.cutB s) w=Q at HF ⊢
 obtain⟨C,hC⟩:=ex (Lg.cutB s)
 have hcl:C.length≤8000:=by rw[hC,Lg.cutB_length];omega
 rw[← hC]at HF
 have HC:=Hq hC
 have HR:=Hq (fun(c:Nat) (hc:c≤128) W=>Tryz.strings_Repeat ⟨#[0]⟩ c W (by omega) (show(⟨#[0]⟩:ByteArray).size*c≤140737488355328 from(by show 1*c≤_;have:c≤128:=hc;omega)))
 clear hC
 go_enter Tryz.func178,Tryz.ntmps178
 go_wp2_with fail
 go_loopw [0,3] (fun s0 v wr=>∃ (t:ByteArray) (ls:List ByteArray),s0= .string t∧t.size≤1000000∧ls++Lg.cutB t=C∧OwnL strC 1 9 w.heap.size wr v ls∧Below w.heap.size w wr) (fun s0 _ _=>(match s0 with| .string t=>t.size|_=>0))
 case atStart=>exact⟨s,[],rfl,hs,HC.out.symm,ownNil _ _ _ _,Below.refl _ _⟩
 case round=>
  obtain⟨t,ls,rfl,hts,hC2,hO,hB⟩:=hrel
  have HB:=Hq hB
  have hll:ls.length≤8000:=by have:=congrArg List.length hC2;rw[List.length_append]at this;omega
  have HC2:=Hq hC2
  clear hB hC2
  by_cases h0:0<t.size
  ·obtain⟨m,hm⟩:=ex (min t.size 128)
   have hmm:min (t.size:Int) 128=(m:Int):=by omega
   have hm1:m≤t.size:=by omega
   have hm2:m≤128:=by omega
   have hm3:(0:Int)≤(m:Int):=by omega
   have hm4:(m:Int)≤(t.size:Int):=by omega
   have hsub:(128:Int)-(m:Int)=((128-m:Nat):Int):=by omega
   have hwr:IntKind.i64.wrap ((128:Int)-(m:Int))=((128-m:Nat):Int):=by rw[hsub];exact IntWalk.i64_in _ (by omega)
   have hwr2:IntKind.i64.wrap ((128-m:Nat):Int)=((128-m:Nat):Int):=IntWalk.i64_in _ (by omega)
   have HJ:=Hq (Lg.pad_join t m hm)
   have HN:=Hq (Lg.cut_next t m hm h0)
   have hpz:=Lg.pad128_size (l:=t.data.toList.take 128) (by rw[List.length_take];omega)
   have hxs:(t.extract m t.size).size<t.size:=by rw[ByteArray.size_extract];omega
   have HXS:=Hq hxs
   have hR:=HR.out (128-m) (show 128-m≤128 by omega)
   have hsum:(t.extract 0 m).size+(⟨(Lib.repeatL [(0:UInt8)] (128-m)).toArray⟩:ByteArray).size≤9223372036854775807:=by
    rw[Lg.repeat_zero,ByteArray.size_extract]
    show _+(List.replicate (128-m) (0:UInt8)).toArray.size≤_
    simp
    omega
   have HRR:=Hq hR
   obtain⟨z,hz⟩:=ex (⟨(Lib.repeatL [(0:UInt8)] (128-m)).toArray⟩:ByteArray)
   obtain⟨y,hy⟩:=ex (Lg.pad128 (t.data.toList.take 128):ByteArray)
   have HRZ:Hid (∀ W,Calls Tryz.prog 177 #[.string ⟨#[0]⟩,.int .i64 ((128-m:Nat):Int)] W fun e w'=>e= .returned (.string z)∧Below W.heap.size W w'):=Hq (by rw[hz];exact hR)
   rw[← hz]at HJ hsum
   rw[← hy]at HJ HN hpz
   have hadd:∀ W:World,(Op.stringOp .add (t.extract 0 m) z).run Tryz.prog W= .ok (.string y) W:=fun W=>by rw[← HJ.out];exact run_string_add_sum W _ _ hsum
   obtain⟨r,hr⟩:=ex (128-m:Nat)
   rw[← hr]at hsub hwr hwr2 HRZ
   clear hR HR HRR hm hz hy hxs hr hsum
   obtain⟨A,c,rfl⟩:=ownLen hO
   go_upto_region 4 with fail
   have hO0:=ownBelow hO (Below.refl _ wr).drew
   have hB0:=HB.out.drew
   refine rgH (S:=(fun _=>True)) (fun hHeld=>?_) (by trivial)
   refine tkP 0 ?_;refine tkP 1 ?_;refine tkP 2 ?_;refine tkP 3 ?_;refine tkP 4 ?_;refine tkP 5 ?_
   refine rdP 6 fun K hK=>?_
   go_simp
   refine(HRZ.out _).mono ?_;rintro e w1 ⟨rfl,hb1⟩;have hO1:=ownBelow hO0 hb1;have hB1:=hB0.trans (hb1.mono hB0.size);try go_simp
   refine hKo hK (fun hHeld=>?_) (by trivial)
   clear hK K
   refine tkP 7 ?_
   refine rdP 8 fun K hK=>?_
   go_simp
   have hO2:=ownBelow hO1 (allocB w1 (.cells #[y] 9));have hB2:=hB1.alloc hB1.size (.cells #[y] 9);have hG:=heap_alloc_new w1 (.cells #[y] 9)
   refine hKo hK (fun hHeld=>?_) (by trivial)
   clear hK K
   refine rdP 9 fun K hK=>?_
   refine wantedIf (by rfl) ?_
   refine wp_push _ (.tmp 11) (.tmp 19) 26 9 Tryz.underlying26 info_string rfl (by omega) (by omega) rfl w.heap.size _ ls.length (ls.flatMap strC) rfl hO2 w1.heap.size (strC y) 9 rfl hG rfl (by simp[strC,Value.oneCell']) (by omega) hB2.size ?_
   intro v7 w7 ho hg hb
   have hB7:=hB2.trans hb
   refine hKo hK (fun hHeld=>?_) (by trivial)
   clear hK K
   refine tkP 10 ?_
   refine wpAnyH_done Kr ?_ _
   have HO7:=Hq (OwnL.push (enc:=strC) (x:=y) ho)
   have HB7:=Hq hB7
   clear hO hO0 hO1 hO2 hB0 hB1 hB2 hB7 ho hg hb hG hHeld HB hadd hpz
   go_wp2_with fail
   go_roundw
   case rel=>exact⟨_,ls++[y],rfl,by have:=HXS.out;omega,by rw[List.append_assoc];have h:=HC2.out;rw[HN.out]at h;exact h,HO7.out,HB7.out⟩
   case measure=>exact HXS.out
  ·have h00:t.size=0:=by omega
   have hfin:ls=C:=by have h:=HC2.out;rwa[Lg.cut_none t h00,List.append_nil]at h
   subst hfin
   go_wp2_with fail
   exact HF.out _ _ hO HB.out
end Go.Proofs.YtmfkhdhnbkambaaGreatDoor
namespace Rc
end Rc
namespace Go.Proofs.YtmfkhdhnbkambaaGreatDoor
open Go.RowKit
abbrev zeroA:Array Value:=#[(),(),(),(),(),(),(),(),(),"","",(),(),"",(),(),"s","s"]
end Go.Proofs.YtmfkhdhnbkambaaGreatDoor
namespace Rc
end Rc
namespace Go.Proofs.YtmfkhdhnbkambaaGreatDoor
open Go.RowKit
theorem info_dirty:(Tryz.prog.info? 138).map (fun i=>(i.zero,i.size,i.bytes))=some (some (.agg #[(),()]),2,16):=by kernel_rfl
end Go.Proofs.YtmfkhdhnbkambaaGreatDoor
namespace Lg
end Lg
namespace Go.Proofs.YtmfkhdhnbkambaaGreatDoor
open Go.RowKit
end Go.Proofs.YtmfkhdhnbkambaaGreatDoor
namespace Lg
end Lg
namespace Go.Proofs.YtmfkhdhnbkambaaGreatDoor
open Go.RowKit
theorem putW (n:Nat)(h:n<18446744073709551616)(size:Nat)(h8:size≤8):(Oct.putB (n:Int) size).data.toList=Oct.putL n size:=by
 rw[Oct.putB_list _ _ h8]
 congr 1
 unfold Oct.word
 omega
theorem seal_any (s:ByteArray)(hs:s.size≤1000000)(w:World):
 Calls Tryz.prog 181 #[s] w fun e w'=>∃ x:ByteArray,e= .returned (.string x)∧x.data.toList=Oct.putL (Oct.sumN s.data.toList) 4++s.data.toList∧Below w.heap.size w w':=by
 have HS:=Hq (fun W=>sum_any s (by omega) W)
 have hlt:Oct.sumN s.data.toList<18446744073709551616:=by have:=Oct.sumN_lt s.data.toList;omega
 have hfin0:(Oct.putB ((Oct.sumN s.data.toList:Nat):Int) 4).data.toList=Oct.putL (Oct.sumN s.data.toList) 4:=putW _ hlt 4 (by omega)
 generalize Oct.sumN s.data.toList=n at HS hfin0 ⊢
 have HP:=Hq (fun W=>put_any (n:Int) 4 (by omega) (by omega) W)
 have hsz:(Oct.putB (n:Int) 4).size=4:=Oct.putB_size _ 4 (by omega)
 have hsum:(Oct.putB (n:Int) 4).size+s.size≤281474976710656:=by omega
 have hfin:(Oct.putB (n:Int) 4++s).data.toList=Oct.putL n 4++s.data.toList:=by
  rw[ByteArray.data_append,Array.toList_append,hfin0]
 clear hlt hfin0
 generalize Oct.putB (n:Int) 4=x at HP hsz hsum hfin
 go_enter Tryz.func181,Tryz.ntmps181
 go_wp2_with (first|(go_at_call 215;refine(HS.out _).mono ?_;rintro e w1 ⟨rfl,rfl⟩)|(go_at_call 153;refine(HP.out _).mono ?_;rintro e w2 ⟨rfl,hb2⟩))
 go_ret
 exact⟨_,rfl,hfin,hb2⟩
def PutOut (r:Rc.Rec)(w:World)(e:Ending)(w':World):Prop:=
 (∃ x:ByteArray,Rc.Right r∧e= .returned (.tuple #[x,()])∧x.data.toList=Lg.putR r∨¬ Rc.Right r∧e= .returned (.tuple #["",.int .i64 1]))∧Below w.heap.size w w'
theorem recput_any (r:Rc.Rec)(A D:Option Addr)(c d:Nat)(w:World)(hr:RecR w r A c D d):
 Calls Tryz.prog 174 #[recV r (.slice A r.txns.length c) (.slice D r.dirty.length d)] w (PutOut r w):=by
 have HR:=Hq (fun W (h:Below w.heap.size w W)=>cright_rec r A D c d W (hr.below h))
 have HA:=Hq (heap_alloc_new w (.cells (recA r (.slice A r.txns.length c) (.slice D r.dirty.length d)) 49))
 cases hb:Rc.rightB r with
 |false=>
  rw[hb]at HR
  have hno:¬ Rc.Right r:=fun h=>by rw[Rc.rightB_yes h]at hb;cases hb
  have HO:=Hq (fun w' (h:Below w.heap.size w w')=>show PutOut r w (.returned (.tuple #["",.int .i64 1])) w' from⟨⟨⟨#[]⟩,.inr ⟨hno,rfl⟩⟩,h⟩)
  clear hno hb hr
  generalize PutOut r w=Q at HO ⊢
  obtain⟨lsn,prev,txn,kind,page,next,nu,⟨ok,os,oo,on⟩,how,root,⟨ek,ep,es⟩,ts,ds⟩:=r
  dsimp only[recV,recA]at HR HA ⊢
  go_enter Tryz.func174,Tryz.ntmps174
  go_wp2_with (first
   |(with_reducible refine lL HA.out Tryz.underlying49 ?_)
   |(go_at_call 206;(with_reducible refine(HR.out _ (allocB _ _)).mono ?_);rintro e w1 ⟨rfl,hb1⟩))
  exact HO.out _ (joinB (allocB _ _) hb1)
 |true=>
  rw[hb]at HR
  have hx:Rc.Right r:=Rc.rightB_iff.1 hb
  have HB:=Hq (fun W (h:Below w.heap.size w W)=>body_any r hx A D c d W (hr.below h))
  obtain⟨y,hy⟩:=ex (⟨(Rc.bodyB r).toArray⟩:ByteArray)
  rw[← hy]at HB
  have hyl:y.data.toList=Rc.bodyB r:=by rw[hy]
  have hlen:=Rc.bodyB_len hx
  have hys:y.size=(Rc.bodyB r).length:=by rw[← hyl];simp
  have hsz:y.size≤1000000:=by omega
  have HS:=Hq (fun W=>seal_any y hsz W)
  have HP:=Hq (fun W=>put_any (y.size:Int) 4 (by omega) (by omega) W)
  have hpl:(Oct.putB (y.size:Int) 4).data.toList=Oct.putL y.size 4:=putW _ (by omega) 4 (by omega)
  have hpz:(Oct.putB (y.size:Int) 4).size=4:=Oct.putB_size _ 4 (by omega)
  generalize Oct.putB (y.size:Int) 4=z at HP hpl hpz
  have HO:=Hq (fun w' (x:ByteArray) (hxx:x.data.toList=Oct.putL (Oct.sumN y.data.toList) 4++y.data.toList) (h:Below w.heap.size w w')=>show PutOut r w (.returned (.tuple #[.string (z++x),()])) w' from⟨⟨z++x,.inl ⟨hx,rfl,by rw[ByteArray.data_append,Array.toList_append,hpl,hxx,hyl,hys];rfl⟩⟩,h⟩)
  have HX:=Hq (fun(x:ByteArray) (hxx:x.data.toList=Oct.putL (Oct.sumN y.data.toList) 4++y.data.toList)=>show x.size≤1000004 from by
   have e:x.size=x.data.toList.length:=by simp
   rw[e,hxx,List.length_append,Oct.putL_length]
   have e2:y.data.toList.length=y.size:=by simp
   omega)
  clear hx hb hr hy hyl hlen hys hpl
  generalize PutOut r w=Q at HO ⊢
  obtain⟨lsn,prev,txn,kind,page,next,nu,⟨ok,os,oo,on⟩,how,root,⟨ek,ep,es⟩,ts,ds⟩:=r
  dsimp only[recV,recA]at HR HA HB ⊢
  go_enter Tryz.func174,Tryz.ntmps174
  go_upto_region 3 with(first
   |(with_reducible refine lL HA.out Tryz.underlying49 ?_)
   |(go_at_call 206;(with_reducible refine(HR.out _ (allocB _ _)).mono ?_);rintro e w1 ⟨rfl,hb1⟩))
  have HA1:=Hq (blkOld HA.out hb1)
  have HB1:=Hq (joinB (allocB w _) hb1)
  clear hb1 HA HR
  go_upto_region 4 with(first
   |(with_reducible refine lL HA1.out Tryz.underlying49 ?_)
   |(go_at_call 207;(with_reducible refine(HB.out _ HB1.out).mono ?_);rintro e w2 ⟨rfl,hb2⟩))
  have HB2:=Hq (joinB HB1.out hb2)
  clear hb2 HB1 HA1 HB
  go_wp2_with (first|(go_at_call 153;refine(HP.out _).mono ?_;rintro e w3 ⟨rfl,hb3⟩)|(go_at_call 181;refine(HS.out _).mono ?_;rintro e w4 ⟨x,rfl,hxx,hb4⟩;have hxs:=HX.out x hxx;have hsum:z.size+x.size≤281474976710656:=(by omega)))
  exact HO.out _ x hxx (joinB (joinB HB2.out hb3) hb4)
end Go.Proofs.YtmfkhdhnbkambaaGreatDoor
namespace Lg
theorem append_wrong {l:Lo}{r:Rc.Rec}(h:¬ Rc.Right {r with lsn:=l.end_+1}):appendD l r=(l,0,1):=by
 unfold appendD
 simp only
 rw[if_pos h]
theorem append_full {l:Lo}{r:Rc.Rec}(h:Rc.Right {r with lsn:=l.end_+1})(h2:l.n*128-((putR {r with lsn:=l.end_+1}).length:Int)<l.end_):appendD l r=(l,0,18):=by
 unfold appendD
 simp only
 rw[if_neg (fun hn=>hn h),if_pos h2]
theorem append_ok {l:Lo}{r:Rc.Rec}(h:Rc.Right {r with lsn:=l.end_+1})(h2:¬ l.n*128-((putR {r with lsn:=l.end_+1}).length:Int)<l.end_):appendD l r=({l with end_:=l.end_+((putR {r with lsn:=l.end_+1}).length:Int),tail:=l.tail++⟨(putR {r with lsn:=l.end_+1}).toArray⟩},l.end_+1,0):=by
 unfold appendD
 simp only
 rw[if_neg (fun hn=>hn h),if_neg h2]
end Lg
namespace Go.Proofs.YtmfkhdhnbkambaaGreatDoor
open Go.RowKit
theorem recput_yes (r:Rc.Rec)(hR:Rc.Right r)(A D:Option Addr)(c d:Nat)(w:World)(hr:RecR w r A c D d):
 Calls Tryz.prog 174 #[recV r (.slice A r.txns.length c) (.slice D r.dirty.length d)] w fun e w'=>e= .returned (.tuple #[.string ⟨(Lg.putR r).toArray⟩,()])∧Below w.heap.size w w':=by
 refine(recput_any r A D c d w hr).mono ?_
 rintro e w' ⟨⟨x,h⟩,hb⟩
 rcases h with⟨_,rfl,hx⟩|⟨h,_⟩
 ·exact⟨by rw[← hx],hb⟩
 ·exact absurd hR h
theorem recput_no (r:Rc.Rec)(hR:¬ Rc.Right r)(A D:Option Addr)(c d:Nat)(w:World)(hr:RecR w r A c D d):
 Calls Tryz.prog 174 #[recV r (.slice A r.txns.length c) (.slice D r.dirty.length d)] w fun e w'=>e= .returned (.tuple #["",.int .i64 1])∧Below w.heap.size w w':=by
 refine(recput_any r A D c d w hr).mono ?_
 rintro e w' ⟨⟨x,h⟩,hb⟩
 rcases h with⟨h,_⟩|⟨_,rfl⟩
 ·exact absurd h hR
 ·exact⟨rfl,hb⟩
def AppOut (x:Lg.Lo×Int×Int)(w:World)(e:Ending)(w':World):Prop:=e= .returned (.tuple #[logV x.1,x.2.1,x.2.2])∧Below w.heap.size w w'
theorem append_any (l:Lg.Lo)(he0:0≤l.end_)(he1:l.end_≤1000000000)(hn0: -1000000000≤l.n)(hn1:l.n≤1000000000)(ht:l.tail.size≤1000000000)(r:Rc.Rec)(A D:Option Addr)(c d:Nat)(w:World)(hr:RecR w r A c D d):
 Calls Tryz.prog 127 #[logV l,recV r (.slice A r.txns.length c) (.slice D r.dirty.length d)] w (AppOut (Lg.appendD l r) w):=by
 have HPY:=Hq (fun hR W (hb:Below w.heap.size w W)=>recput_yes {r with lsn:=l.end_+1} hR A D c d W ⟨hr.txns.below hb,hr.dirty.below hb,hr.small⟩)
 have HPN:=Hq (fun hR W (hb:Below w.heap.size w W)=>recput_no {r with lsn:=l.end_+1} hR A D c d W ⟨hr.txns.below hb,hr.dirty.below hb,hr.small⟩)
 have HN:=Hq (@Lg.append_wrong l r)
 have HFU:=Hq (@Lg.append_full l r)
 have HOK:=Hq (@Lg.append_ok l r)
 generalize Lg.appendD l r=o at HN HFU HOK ⊢
 clear hr
 obtain⟨fr,n,en,sf,tl⟩:=l
 obtain⟨lsn,prev,txn,kind,page,next,nu,⟨ok,os,oo,on⟩,how,root,⟨ek,ep,es⟩,ts,ds⟩:=r
 dsimp only[recV,recA,logV]at HPY HPN HN HFU HOK he0 he1 hn0 hn1 ht ⊢
 have hw1:IntKind.i64.wrap (en+1)=en+1:=IntWalk.i64_in _ (by omega)
 by_cases hR:Rc.Right ⟨en+1,prev,txn,kind,page,next,nu,⟨ok,os,oo,on⟩,how,root,⟨ek,ep,es⟩,ts,ds⟩
 ·have HP:=Hq (HPY.out hR)
  have HFU2:=Hq (HFU.out hR)
  have HOK2:=Hq (HOK.out hR)
  have hpl0:(Lg.putR ⟨en+1,prev,txn,kind,page,next,nu,⟨ok,os,oo,on⟩,how,root,⟨ek,ep,es⟩,ts,ds⟩).length≤40008:=by rw[Lg.putR_len];have:=(Rc.bodyB_len hR).2;omega
  obtain⟨x,hx⟩:=ex (⟨(Lg.putR ⟨en+1,prev,txn,kind,page,next,nu,⟨ok,os,oo,on⟩,how,root,⟨ek,ep,es⟩,ts,ds⟩).toArray⟩:ByteArray)
  have hxs:(Lg.putR ⟨en+1,prev,txn,kind,page,next,nu,⟨ok,os,oo,on⟩,how,root,⟨ek,ep,es⟩,ts,ds⟩).length=x.size:=by rw[hx];show _=((Lg.putR ⟨en+1,prev,txn,kind,page,next,nu,⟨ok,os,oo,on⟩,how,root,⟨ek,ep,es⟩,ts,ds⟩).toArray).size;simp
  rw[hxs]at HFU2 HOK2 hpl0
  rw[← hx]at HP HOK2
  have hpl:=hpl0
  clear HPY HPN HN HFU HOK hR hx hxs hpl0
  go_enter Tryz.func127,Tryz.ntmps127
  go_upto_region 1 with fail
  have H0:=nW3 w #[fr,n,en,sf,tl] 30 (rcA lsn prev txn kind page next nu ok os oo on how root ek ep es (.slice A ts.length c) (.slice D ds.length d)) 49 #[(),(),(),(),""] 30
  obtain⟨W0,hW0⟩:=exW H0
  have hs0:W0.heap.size=w.heap.size+3:=by rw[hW0];simp
  rw[← hW0]at H0 ⊢
  have hc0:=blkCell H0.out.get0
  have hc1:=blkCell H0.out.get1
  have hz1:=blkFrozen H0.out.get1
  clear hW0
  go_upto_region 2 with fail
  have H1:=Hq (show BxL w.heap.size w [(#[fr,n,en,sf,tl],30),((rcA (en+1) prev txn kind page next nu ok os oo on how root ek ep es (.slice A ts.length c) (.slice D ds.length d)),49),(#[(),(),(),(),""],30)] (W0.setCell ⟨w.heap.size+1,0,none⟩ (.int .i64 (en+1)))from by have h:=H0.out.set 1 0 (.int .i64 (en+1)) _ rfl;simpa using h)
  obtain⟨W1,hW1⟩:=ex (W0.setCell ⟨w.heap.size+1,0,none⟩ (.int .i64 (en+1)))
  rw[← hW1]at H1 ⊢
  clear hW1 hc0 hc1 hz1 H0 hs0
  have HX1:=Hq H1.out.get1
  go_upto_region 3 with(first
   |(with_reducible refine lL HX1.out Tryz.underlying49 ?_)
   |(go_at_call 174;(with_reducible refine(HP.out _ H1.out.below).mono ?_);rintro e w2 ⟨rfl,hb2⟩))
  have H2:=Hq (H1.out.step hb2)
  clear hb2 H1 HX1 HP
  have hm:IntKind.i64.wrap (n*128)=n*128:=IntWalk.i64_in _ (by omega)
  have hm2:IntKind.i64.wrap (n*128-(x.size:Int))=n*128-(x.size:Int):=IntWalk.i64_in _ (by omega)
  have hm3:IntKind.i64.wrap (en+(x.size:Int))=en+(x.size:Int):=IntWalk.i64_in _ (by omega)
  by_cases hfull:n*128-(x.size:Int)<en
  ·have HO:=Hq (HFU2.out hfull)
   have HX2:=Hq (show w2.heap[w.heap.size]? =some (.cells #[fr,n,en,sf,tl] 30 (0,0))from by have h:=H2.out.get0;simpa using h)
   have hc2:=blkCell HX2.out
   clear HFU2 HOK2
   go_wp2_with (first
    |(with_reducible refine lL HX2.out Tryz.underlying30 ?_)
    |(with_reducible refine lS #[fr,n,en,sf,tl] H2.out.get2 ?_))
   refine bodyPost_ret (v:=.tuple #[.agg #[fr,n,en,sf,tl],(),.int .i64 18]) (results_cell3 rfl _ _ rfl (load_whole (setRow_heap _ _ _ _ _ _ H2.out.get2) Tryz.underlying30 Kr Kr) rfl rfl) rfl ?_
   rw[HO.out]
   exact⟨rfl,(H2.out.row 2 _ _ rfl).below⟩
  ·have HO:=Hq (HOK2.out (by omega))
   have hadd:∀ W:World,(Op.stringOp .add tl x).run Tryz.prog W= .ok (.string (tl++x)) W:=fun W=>run_string_add_sum W _ _ (by omega)
   have HX2:=Hq (show w2.heap[w.heap.size]? =some (.cells #[fr,n,en,sf,tl] 30 (0,0))from by have h:=H2.out.get0;simpa using h)
   have hc2:=blkCell HX2.out
   have hz2:=blkFrozen HX2.out
   clear HFU2 HOK2
   go_upto_region 8 with fail
   have H3:=Hq (show BxL w.heap.size w [(#[fr,n,.int .i64 (en+(x.size:Int)),sf,tl],30),((rcA (en+1) prev txn kind page next nu ok os oo on how root ek ep es (.slice A ts.length c) (.slice D ds.length d)),49),(#[(),(),(),(),""],30)] (w2.setCell ⟨w.heap.size,2,none⟩ (.int .i64 (en+(x.size:Int))))from by have h:=H2.out.set 0 2 (.int .i64 (en+(x.size:Int))) _ rfl;simpa using h)
   obtain⟨W3,hW3⟩:=ex (w2.setCell ⟨w.heap.size,2,none⟩ (.int .i64 (en+(x.size:Int))))
   rw[← hW3]at H3 ⊢
   clear hW3 hc2 hz2 HX2 H2
   have hc3:=blkCell H3.out.get0
   have hz3:=blkFrozen H3.out.get0
   go_upto_region 9 with fail
   have H4:=Hq (show BxL w.heap.size w [(#[fr,n,.int .i64 (en+(x.size:Int)),sf,.string (tl++x)],30),((rcA (en+1) prev txn kind page next nu ok os oo on how root ek ep es (.slice A ts.length c) (.slice D ds.length d)),49),(#[(),(),(),(),""],30)] (W3.setCell ⟨w.heap.size,4,none⟩ (.string (tl++x)))from by have h:=H3.out.set 0 4 (.string (tl++x)) _ rfl;simpa using h)
   obtain⟨W4,hW4⟩:=ex (W3.setCell ⟨w.heap.size,4,none⟩ (.string (tl++x)))
   rw[← hW4]at H4 ⊢
   clear hW4 hc3 hz3 H3 hadd
   have HD4:=Hq H4.out.drew
   refine rgH (S:=(fun u=>u.heap[w.heap.size]? =some (.cells #[fr,n,.int .i64 (en+(x.size:Int)),sf,.string (tl++x)] 30 (0,0))∧u.heap[w.heap.size+1]? =some (.cells (rcA (en+1) prev txn kind page next nu ok os oo on how root ek ep es (.slice A ts.length c) (.slice D ds.length d)) 49 (0,0)))) (fun hHeld=>?_) (by first|exact hSn|exact⟨(by have h:=HD4.out.get0;simpa using h),HD4.out.get1⟩)
   refine tkP 0 ?_;refine tkP 1 ?_;refine tkP 2 ?_
   refine rdP 3 fun K hK=>?_
   refine wantedIf (by rfl) ?_
   refine sW #[fr,n,.int .i64 (en+(x.size:Int)),sf,.string (tl++x)] HD4.out.get2 ?_
   have hB5:=HD4.out.row 2 #[fr,n,.int .i64 (en+(x.size:Int)),sf,.string (tl++x)] _ rfl
   have hSn:=And.intro (show _=some (Obj.cells #[fr,n,.int .i64 (en+(x.size:Int)),sf,.string (tl++x)] 30 (0,0))from by have h:=hB5.get 0 _ rfl;simpa using h) (hB5.get 1 _ rfl)
   refine hKo hK (fun hHeld=>?_) (by first|exact hSn|exact⟨(by have h:=HD4.out.get0;simpa using h),HD4.out.get1⟩)
   clear hK K
   try simp only[Act.put]
   refine tkP 4 ?_;refine tkP 5 ?_
   refine wpAnyH_done Kr ?_ _
   clear hHeld
   go_wp2_with fail
   refine bodyPost_ret (v:=.tuple #[.agg #[fr,n,.int .i64 (en+(x.size:Int)),sf,.string (tl++x)],.int .i64 (en+1),()]) (results_cell3 rfl _ _ rfl (load_whole (setRow_heap _ _ _ _ _ _ HD4.out.get2) Tryz.underlying30 Kr Kr) rfl rfl) rfl ?_
   rw[HO.out]
   exact⟨rfl,hB5.below⟩
 ·have HO:=Hq (HN.out hR)
  have HP:=Hq (HPN.out hR)
  clear HPY HPN HN HFU HOK hR
  go_enter Tryz.func127,Tryz.ntmps127
  go_upto_region 1 with fail
  have H0:=nW3 w #[fr,n,en,sf,tl] 30 (rcA lsn prev txn kind page next nu ok os oo on how root ek ep es (.slice A ts.length c) (.slice D ds.length d)) 49 #[(),(),(),(),""] 30
  obtain⟨W0,hW0⟩:=exW H0
  have hs0:W0.heap.size=w.heap.size+3:=by rw[hW0];simp
  rw[← hW0]at H0 ⊢
  have hc0:=blkCell H0.out.get0
  have hc1:=blkCell H0.out.get1
  have hz1:=blkFrozen H0.out.get1
  clear hW0
  go_upto_region 2 with fail
  have H1:=Hq (show BxL w.heap.size w [(#[fr,n,en,sf,tl],30),((rcA (en+1) prev txn kind page next nu ok os oo on how root ek ep es (.slice A ts.length c) (.slice D ds.length d)),49),(#[(),(),(),(),""],30)] (W0.setCell ⟨w.heap.size+1,0,none⟩ (.int .i64 (en+1)))from by have h:=H0.out.set 1 0 (.int .i64 (en+1)) _ rfl;simpa using h)
  obtain⟨W1,hW1⟩:=ex (W0.setCell ⟨w.heap.size+1,0,none⟩ (.int .i64 (en+1)))
  rw[← hW1]at H1 ⊢
  clear hW1 hc0 hc1 hz1 H0 hs0
  have HX1:=Hq H1.out.get1
  go_upto_region 3 with(first
   |(with_reducible refine lL HX1.out Tryz.underlying49 ?_)
   |(go_at_call 174;(with_reducible refine(HP.out _ H1.out.below).mono ?_);rintro e w2 ⟨rfl,hb2⟩))
  have H2:=Hq (H1.out.step hb2)
  clear hb2 H1 HX1 HP
  have HX2:=Hq (show w2.heap[w.heap.size]? =some (.cells #[fr,n,en,sf,tl] 30 (0,0))from by have h:=H2.out.get0;simpa using h)
  go_wp2_with (first
   |(with_reducible refine lL HX2.out Tryz.underlying30 ?_)
   |(with_reducible refine lS #[fr,n,en,sf,tl] H2.out.get2 ?_))
  refine bodyPost_ret (v:=.tuple #[.agg #[fr,n,en,sf,tl],(),.int .i64 1]) (results_cell3 rfl _ _ rfl (load_whole (setRow_heap _ _ _ _ _ _ H2.out.get2) Tryz.underlying30 Kr Kr) rfl rfl) rfl ?_
  rw[HO.out]
  exact⟨rfl,(H2.out.row 2 _ _ rfl).below⟩
end Go.Proofs.YtmfkhdhnbkambaaGreatDoor
