import Derived.Test.YtmfkhdhnbkambaaGreatDoorHp00
import Derived.Test.YtmfkhdhnbkambaaGreatDoorRows
import Derived.WalkKit
import Derived.ProofKit
import Derived.OpenShut
import Derived.SizedLaws
import Derived.Below
import Derived.Carry
import Derived.ChangeSame
import Derived.Lib.SmallJoins
import Derived.Test.YtmfkhdhnbkambaaGreatDoorProg
import Derived.WalkSpells
import Derived.WalkLawsBesides
import Derived.Lib.Hide
import Derived.Lib.ConvBytes
import Derived.Shelf.Strings.Builder1
import Derived.Shelf.Strings.Builder2
import Derived.Shelf.Small.Bits
import Derived.Shelf.Small.Wraps
import Derived.Shelf.Strings.BuilderF
import Derived.Shelf.Strings.BuilderK
import Derived.Shelf.Strings.Builder2Cap
import Derived.Shelf.Strconv.Itoa0
import Derived.Shelf.Strings.Prefix
import Derived.Shelf.Bits.Mul64
import Derived.Shelf.Strings.Repeat
import Derived.Shelf.Strings.BuilderCap
import Derived.Ground.Names2Prog
import Derived.Shelf.Slices.Clone
import Derived.Lib.AppendStr
import Derived.RegionTactic
import Derived.BigRegion
import Derived.ChangeAlike
import Derived.Lib.UnsafeStr
import Derived.Lib.Builder
import Derived.Shelf.Strconv.Atoi
import Derived.Shelf.Strconv.Itoa1
import Derived.Shelf.LaysM
import Derived.Shelf.Strconv.Itoa2
import Derived.Shelf.Strconv.Itoa3
import Derived.Shelf.Strconv.AtoiErrFast
import Derived.Shelf.Strconv.ParseIntEmpty
import Derived.Shelf.Strconv.AtoiFail
import Derived.Shelf.Strconv.Clone
import Derived.Shelf.Strconv.SyntaxError
import Derived.Shelf.LaysC
import Derived.Shelf.Strconv.ToError
import Derived.Shelf.Strconv.Lower
import Derived.Shelf.Strconv.ParseUint10
import Derived.Shelf.Strconv.ParseUint10Empty
import Derived.Shelf.Strconv.ParseUint10Any
import Derived.Shelf.Strconv.ParseInt10
import Derived.Shelf.Strconv.AtoiLong
import Derived.Shelf.Strconv.AtoiInnerAll
import Derived.Shelf.Strconv.RangeError
import Derived.Shelf.Strconv.ToErrorRange
import Derived.Shelf.Strconv.AtoiAll
import Derived.Shelf.Strconv.ErrVarAll
import Derived.Deep.QuietTactic
import Derived.BigQuiet
import Derived.Deep.DeepCutAuto
import Derived.Deep.LoopGhost
import Derived.Deep.RegionHeld3
import Derived.Deep.AppendLies
import Derived.Deep.MidRow
import Derived.Laws.ResultCell
import Derived.Laws.Tables
import Derived.Laws.StructEq
import Derived.Laws.CopyOwn
import Derived.Laws.MakeOwn
import Derived.Laws.OwnMore
import Derived.Maps.AppendAt
import Derived.OwnWalk
import Derived.IntWalk
set_option maxRecDepth 100000
set_option maxHeartbeats 16000000
set_option linter.unusedSimpArgs false
namespace Go.Proofs.YtmfkhdhnbkambaaGreatDoor
open Go.ChangeShapes Go.WideShapes Go.ChangeAt Go.RowKit
theorem own:ownKnob Tryz.prog.godebug=none:=by kernel_rfl
theorem bnd {n:Int}(h:(Lit.int .i64 n).wf=true): -9223372036854775808≤n∧n≤9223372036854775807:=bounds_i64 h
theorem laidOut:laidOutB Tryz.prog=true:=by kernel_rfl
section
variable {H : Type} {enc : TypeId × Value → H} {P : Program}
theorem trodAll_again (hl:laidOutB P=true){W W':World}(hb:Below W.heap.size W W'){sp:Nat→Bool}:∀ {ts:List TypeId} {vs:List Value} {ds:List (DataW H)} {ps:List MemPlace},(ts.all fun t=>P.readableRec t&&decide (t<P.types.size))=true→
 DataW.TrodAll enc P W 0 (fun _=>true) true ts vs ds ps→(∀ x∈ps,x.block<W.heap.size)→(∀ x∈ps,sp x.block=true)→DataW.TrodAll enc P W' 0 sp true ts vs ds ps:=by
 intro ts
 induction ts with
 |nil=>
  intro vs ds ps _ h _ _
  obtain⟨rfl,rfl,rfl⟩:=trodAll_nil h
  exact trodAll_mk0
 |cons t ts ih=>
  intro vs ds ps hr h hlt hsp
  obtain⟨v,vs',d,ds',p,q,rfl,rfl,rfl,h0,h1⟩:=trodAll_cons h
  simp only[List.all_cons,Bool.and_eq_true]at hr
  obtain⟨⟨hr1,hr2⟩,hr3⟩:=hr
  refine trodAll_cons_mk (WideElems.Trod_stays hl hr1 (of_decide_eq_true hr2) h0 (fun x hx=>hb.same (hlt x (List.mem_append_left _ hx))) (fun x hx=>hsp x (List.mem_append_left _ hx))) ?_
  exact ih (by simpa using hr3) h1 (fun x hx=>hlt x (List.mem_append_right _ hx)) (fun x hx=>hsp x (List.mem_append_right _ hx))
theorem post_again {f:Func}{s:ChangeSpec}{apart fresh handsOn again:Bool}{W W':World}{args:Array Value}{v:Value}{ds gs:List (DataW H)}{before pa pv:List MemPlace}
 (hW:DataW.Whole enc P f.params.toList s.vars apart W args.toList ds gs before)
 (hres:∀ (b:Nat) (sp:Nat→Bool) (hd:Bool),DataW.TrodAll enc P W' b sp hd f.resultTypes.toList (v.resultList f.resultTypes.size) (s.fn H (ds++gs)).results [])
 (hargs:∀ sp:Nat→Bool,(∀ p∈before,sp p.block=true)→DataW.TrodAll enc P W' 0 sp true f.params.toList args.toList (s.fn H (ds++gs)).args pa)
 (hvars:∀ sp:Nat→Bool,(∀ p∈before,sp p.block=true)→DataW.TrodVars enc P W' sp s.vars (s.fn H (ds++gs)).vars pv)
 (hps:before=pa++pv) (hb:Below W.heap.size W W')
 (hok:∀ (j:Nat) (t:TypeId) (r:Value),f.resultTypes[j]? =some t→(v.resultList f.resultTypes.size)[j]? =some r→Value.okWide P W' .any 0 t r):
 s.post enc P f apart fresh handsOn again W args v W':=by
 have hlt:∀ p∈before,p.block<W.heap.size:=fun p hp=>hW.lt p hp
 have hold:∀ p∈before,(fun b=>decide (b<W.heap.size)) p.block=true:=fun p hp=>by simpa using hlt p hp
 refine⟨ds,gs,before,[],pa,pv,hW,hres _ _ _,hargs _ hold,hvars _ hold,World.keptBut_mono (fun p hp=>⟨hp,?_⟩) (hb.frame (·∈before)),fun _=>?_⟩
 ·rw[hps,List.mem_append]at hp
  exact Or.inr hp
 ·obtain⟨_,_,_,_,_,hz,hn⟩:=hW
  refine⟨hok,_,_,([]++pa)++pv,⟨[]++pa,pv,trodAll_append (hargs _ (fun _ _=>rfl)) (hres _ _ _),hvars _ (fun _ _=>rfl),rfl,?_,?_⟩,?_⟩
  ·intro b off hp
   have hin:MemPlace.cell b off∈before:=by rw[hps];simpa using hp
   rw[hb.frozen (hlt _ hin)]
   exact hz b off hin
  ·intro ha
   have:=hn ha
   rw[hps]at this
   simpa using this
  ·intro p hp _
   rw[hps]
   simpa using hp
end
section
variable {H : Type} {enc : TypeId × Value → H} {w : World} {base : Nat} {spare : Nat → Bool} {held : Bool}
end
end Go.Proofs.YtmfkhdhnbkambaaGreatDoor
namespace Oct
def word (n:Int):Nat:=(n%18446744073709551616).toNat
theorem word_lt (n:Int):word n<18446744073709551616:=by unfold word;omega
theorem word_nat (n:Nat)(h:n<18446744073709551616):word (n:Int)=n:=by unfold word;omega
def putL (u:Nat):Nat→List UInt8
 |0=>[]
 |k+1=>putL (u/256) k++[UInt8.ofNat (u%256)]
theorem putL_length (u k:Nat):(putL u k).length=k:=by
 induction k generalizing u with
 |zero=>rfl
 |succ k ih=>simp[putL,ih]
theorem putL_get (k:Nat):∀ (u i:Nat),i<k→(putL u k)[i]? =some (UInt8.ofNat (u/256^(k-1-i)%256)):=by
 induction k with
 |zero=>intro u i h;omega
 |succ k ih=>
  intro u i h
  rw[putL]
  by_cases hi:i<k
  ·rw[List.getElem?_append_left (by rw[putL_length];exact hi),ih (u/256) i hi]
   congr 2
   rw[show k+1-1-i=(k-1-i)+1 by omega,Nat.pow_succ,Nat.mul_comm,Nat.div_div_eq_div_mul]
  ·obtain rfl:i=k:=by omega
   rw[List.getElem?_append_right (by rw[putL_length];omega),putL_length]
   simp
def putB (n size:Int):ByteArray:=if size<0∨8<size then⟨#[]⟩else⟨(putL (word n) size.toNat).toArray⟩
theorem putB_size (n:Int)(k:Nat)(h:k≤8):(putB n k).size=k:=by
 unfold putB
 rw[if_neg (by omega)]
 show(putL _ _).toArray.size=_
 simp[putL_length]
theorem putB_list (n:Int)(k:Nat)(h:k≤8):(putB n k).data.toList=putL (word n) k:=by
 unfold putB
 rw[if_neg (by omega)]
 simp
def getL (l:List UInt8):Nat:=l.foldl (fun n c=>256*n+c.toNat) 0
theorem getL_snoc (l:List UInt8)(c:UInt8):getL (l++[c])=256*getL l+c.toNat:=by simp[getL,List.foldl_append]
theorem getL_lt (l:List UInt8):getL l<256^l.length:=by
 have key:∀ (n:Nat) (l:List UInt8),l.length=n→getL l<256^n:=by
  intro n
  induction n with
  |zero=>intro l h;rw[List.eq_nil_of_length_eq_zero h];simp[getL]
  |succ n ih=>
   intro l h
   have hl:l≠[]:=by intro e;rw[e]at h;simp at h
   rw[← List.dropLast_concat_getLast hl,getL_snoc,Nat.pow_succ]
   have h1:=ih l.dropLast (by simp[h])
   have h2:=(l.getLast hl).toNat_lt
   omega
 exact key _ l rfl
theorem getL_putL (k:Nat):∀ u:Nat,getL (putL u k)=u%256^k:=by
 induction k with
 |zero=>intro u;simp[putL,getL,Nat.mod_one]
 |succ k ih=>
  intro u
  rw[putL,getL_snoc,ih]
  have h1:(UInt8.ofNat (u%256)).toNat=u%256:=by rw[UInt8.toNat_ofNat'];omega
  rw[h1,Nat.pow_succ,Nat.mul_comm (256^k) 256,Nat.mod_mul]
  omega
theorem or_byte (x c:Nat)(hc:c<256):(256*x)|||c=256*x+c:=by
 have h:=Nat.shiftLeft_add_eq_or_of_lt (i:=8) (b:=c) (by omega) x
 rw[Nat.shiftLeft_eq,Nat.mul_comm x (2^8)]at h
 exact h.symm
theorem getL_take (l:List UInt8)(k:Nat)(hk:k<l.length):getL (l.take (k+1))=256*getL (l.take k)+(l[k]?.getD 0).toNat:=by
 rw[List.take_succ_eq_append_getElem hk,getL_snoc,List.getElem?_eq_getElem hk];rfl
theorem getL_take_lt (l:List UInt8)(k:Nat)(hk:k<8):getL (l.take k)<72057594037927936:=by
 have h:=getL_lt (l.take k)
 have h2:256^(l.take k).length≤256^7:=Nat.pow_le_pow_right (by omega) (by rw[List.length_take];omega)
 omega
def intOf (u:Nat):Int:=if u<9223372036854775808 then(u:Int)else(u:Int)-18446744073709551616
def getN (s:List UInt8)(at_ size:Nat):Nat:=getL ((s.drop at_).take size)
def there (len:Nat)(at_ size:Int):Bool:=decide (1≤size)&&decide (size≤8)&&decide (0≤at_)&&decide (at_+size≤len)
def bit1 (n:Nat):Nat:=if n%2=1 then(n/2) ^^^ 3988292384 else n/2
def bits8:Nat→Nat→Nat
 |0,n=>n
 |k+1,n=>bits8 k (bit1 n)
def crcByte (n:Nat)(c:UInt8):Nat:=bits8 8 (n ^^^ c.toNat)
def crcFrom (n:Nat)(l:List UInt8):Nat:=l.foldl crcByte n
def sumN (l:List UInt8):Nat:=crcFrom 4294967295 l ^^^ 4294967295
theorem crcFrom_snoc (n:Nat)(l:List UInt8)(c:UInt8):crcFrom n (l++[c])=crcByte (crcFrom n l) c:=by simp[crcFrom,List.foldl_append]
theorem bits8_succ (k n:Nat):bits8 (k+1) n=bit1 (bits8 k n):=by
 induction k generalizing n with
 |zero=>rfl
 |succ k ih=>exact ih (bit1 n)
theorem bit1_lt {n:Nat}(h:n<4294967296):bit1 n<4294967296:=by
 unfold bit1
 split
 ·exact Nat.xor_lt_two_pow (n:=32) (by omega) (by omega)
 ·omega
theorem bits8_lt (k:Nat):∀ {n:Nat},n<4294967296→bits8 k n<4294967296:=by
 induction k with
 |zero=>intro n h;exact h
 |succ k ih=>intro n h;exact ih (bit1_lt h)
theorem crcByte_lt {n:Nat}(h:n<4294967296)(c:UInt8):crcByte n c<4294967296:=
 bits8_lt 8 (Nat.xor_lt_two_pow (n:=32) h (by have:=c.toNat_lt;omega))
theorem crcFrom_lt (l:List UInt8):∀ {n:Nat},n<4294967296→crcFrom n l<4294967296:=by
 induction l with
 |nil=>intro n h;exact h
 |cons c l ih=>intro n h;exact ih (crcByte_lt h c)
theorem sumN_lt (l:List UInt8):sumN l<4294967296:=Nat.xor_lt_two_pow (n:=32) (crcFrom_lt l (by omega)) (by omega)
end Oct
namespace Go.Proofs.YtmfkhdhnbkambaaGreatDoor
open Go.RowKit
def byteI (n:Int)(size i:Nat):Int:=IntKind.u64.wrap n/2^(8*(size-1-i))%256
theorem wrap_word (n:Int):IntKind.u64.wrap n=(Oct.word n:Int):=by
 show n%18446744073709551616=_
 unfold Oct.word;omega
theorem byteI_eq (n:Int)(size i:Nat):byteI n size i=((Oct.word n/256^(size-1-i)%256:Nat):Int):=by
 have e:(256:Nat)^(size-1-i)=2^(8*(size-1-i)):=by rw[Nat.pow_mul]
 rw[byteI,wrap_word,e]
 simp
def fillA (n:Int)(size k:Nat):Array Value:=((List.range size).map fun i=>Value.int .u8 (if i<k then byteI n size i else 0)).toArray
theorem Tryz.elem8:(Tryz.prog.info? 5).map (fun i=>(i.zero,i.size,i.bytes))=some (some (.int .u8 0),1,1):=by kernel_rfl
theorem fillA_start (n:Int)(size:Nat):madeCells (Value.int .u8 0).cells (size*1)=fillA n size 0:=by
 apply Array.ext_getElem?
 intro i
 simp only[madeCells,fillA,Nat.mul_one]
 by_cases h:i<size
 ·simp[h,Value.cells,Nat.mod_one]
 ·simp[h]
theorem fillA_store (n:Int)(size k:Nat)(_hk:k<size):(fillA n size k).setIfInBounds k (.int .u8 (byteI n size k))=fillA n size (k+1):=by
 apply Array.ext_getElem?
 intro i
 simp only[fillA,List.setIfInBounds_toArray,List.getElem?_toArray,List.getElem?_set,List.getElem?_map,List.length_map,List.length_range]
 by_cases hi:k=i
 ·subst hi
  simp[_hk]
 ·rw[if_neg hi]
  by_cases h:i<size
  ·simp only[List.getElem?_range h,Option.map_some]
   by_cases h2:i<k
   ·rw[if_pos h2,if_pos (by omega)]
   ·rw[if_neg h2,if_neg (by omega)]
  ·simp[h]
theorem fillA_cell (n:Int)(size k j:Nat)(hj:j<size):(fillA n size k)[j]? =some (.int .u8 (if j<k then byteI n size j else 0)):=by
 simp[fillA,hj]
theorem fillA_end (n:Int)(size j:Nat)(hj:j<(Oct.putL (Oct.word n) size).length):(fillA n size size)[j]? =some (.int .u8 ((Oct.putL (Oct.word n) size)[j].toNat:Int)):=by
 have hl:=Oct.putL_length (Oct.word n) size
 rw[fillA_cell n size size j (by omega),if_pos (by omega),byteI_eq]
 have h:=Oct.putL_get size (Oct.word n) j (by omega)
 rw[List.getElem?_eq_getElem hj]at h
 injection h with h
 rw[h,UInt8.toNat_ofNat']
 have:Oct.word n/256^(size-1-j)%256%2^8=Oct.word n/256^(size-1-j)%256:=by omega
 rw[this]
theorem make_run (n:Int)(size:Nat)(hs:size≤8)(W:World):(Instr.makeSlice 112 (.int .i64 (size:Int)) (.int .i64 (size:Int))).run Tryz.prog W= .ok (.slice (some ⟨W.heap.size,0,none⟩) size size) (W.alloc (.cells (fillA n size 0) 5)):=by
 obtain⟨i0,hi,hz0,hz1,hz2⟩:=info_parts Tryz.elem8
 have h:=run_make (P:=Tryz.prog) W 112 5 i0 (.int .u8 0) Tryz.underlying112 hi hz0 .i64 .i64 size size (by omega) (by omega) (by rw[hz2];omega) (by omega)
 rw[hz1,Int.toNat_natCast,fillA_start n size]at h
 exact h
theorem convert_run (n:Int)(size:Nat)(w:World):(convert 112 9 (.slice (some ⟨w.heap.size,0,none⟩) size size)).run Tryz.prog (w.alloc (.cells (fillA n size size) 5))= .ok (.string ⟨(Oct.putL (Oct.word n) size).toArray⟩) (w.alloc (.cells (fillA n size size) 5)):=by
 have hl:=Oct.putL_length (Oct.word n) size
 have h:=run_convert_bytes_back (P:=Tryz.prog) (w.alloc (.cells (fillA n size size) 5)) 112 9 5 ⟨w.heap.size,0,none⟩ size (Oct.putL (Oct.word n) size) Tryz.underlying112 Tryz.underlying5 Tryz.underlying9 (fun j hj=>by
  have ha:(⟨w.heap.size,0,none⟩:Addr).add j=⟨w.heap.size,j,none⟩:=by
   unfold Addr.add;split
   ·rename_i h;rw[h]
   ·simp
  rw[ha,World.cell?_alloc_new]
  exact fillA_end n size j hj)
 rw[hl]at h
 exact h
theorem put_walk (n:Int)(size:Nat)(hs:size≤8)(w:World):
 Calls Tryz.prog 153 #[n,size] w fun e w'=>e= .returned (.string (Oct.putB n size))∧Below w.heap.size w w':=by
 have hmk:=make_run n size hs
 have HP:=Hq (show Oct.putB n size=⟨(Oct.putL (Oct.word n) size).toArray⟩from by rw[Oct.putB,if_neg (by omega),Int.toNat_natCast])
 go_enter Tryz.func153,Tryz.ntmps153
 go_wp2_with fail
 clear hmk
 go_loopw [17] (fun i wr=>∃ k:Nat,k≤size∧i= .int .i64 k∧wr=w.alloc (.cells (fillA n size k) 5)) (fun i _=>size-(intOf i).toNat)
 case atStart=>exact⟨0,Nat.zero_le _,rfl,rfl⟩
 case round=>
  obtain⟨k,hk,rfl,rfl⟩:=hrel
  by_cases hlt:k<size
  ·have hc:(fillA n size k)[k]? =some (.int .u8 0):=by rw[fillA_cell n size k k hlt,if_neg (by omega)]
   have HS:=Hq (fillA_store n size k hlt)
   go_wp2_with fail
   go_roundw
   case rel=>exact⟨k+1,by omega,by go_num,by rw[← HS.out];rfl⟩
   case measure=>simp[intOf];omega
  ·obtain rfl:size=k:=by omega
   have hcv:=convert_run n size w
   go_wp2_with fail
   go_ret
   exact⟨by rw[HP.out];rfl,(Below.refl _ _).alloc (Nat.le_refl _) _⟩
theorem put_any (n size:Int)(h0:0≤size)(h8:size≤8)(w:World):
 Calls Tryz.prog 153 #[n,size] w fun e w'=>e= .returned (.string (Oct.putB n size))∧Below w.heap.size w w':=by
 obtain⟨k,rfl⟩:=Int.eq_ofNat_of_zero_le h0
 exact put_walk n k (by omega) w
def accI (t:ByteArray)(k:Nat):Int:=(Oct.getL (t.data.toList.take k):Int)
theorem or_step (x c:Nat)(hx:x<72057594037927936)(hc:c<256):bits .or .u64 (IntKind.u64.wrap ((x:Int)*256)) (IntKind.u64.wrap (c:Int))=((256*x+c:Nat):Int):=by
 rw[IntKind.wrap_u64,IntKind.wrap_u64,show(x:Int)*256%18446744073709551616=((256*x:Nat):Int) by omega,show(c:Int)%18446744073709551616=(c:Int) by omega,bits_or_u64_nat _ _ (by omega) (by omega),Oct.or_byte x c hc]
theorem accI_step (t:ByteArray)(k:Nat)(hk:k<t.size)(h8:k<8):bits .or .u64 (IntKind.u64.wrap (accI t k*256)) (IntKind.u64.wrap ((t.data[k]?.getD 0).toNat:Int))=accI t (k+1):=by
 have hl:k<t.data.toList.length:=by simpa using hk
 have e:t.data.toList[k]?.getD 0=t.data[k]?.getD 0:=by simp
 unfold accI
 rw[Oct.getL_take _ k hl,e,or_step _ _ (Oct.getL_take_lt _ k h8) (t.data[k]?.getD 0).toNat_lt]
theorem wrap_int (u:Nat)(h:u<18446744073709551616):wrap64 (u:Int)=Oct.intOf u:=by
 unfold Oct.intOf wrap64
 split<;>omega
theorem below_bytes (w:World)(e:TypeId)(s:ByteArray):Below w.heap.size w (Lib.bytesWorld w e s):=
 ⟨rfl,rfl,rfl,by rw[Lib.bytesWorld_size];omega,fun j hj=>Lib.bytesWorld_at_old w e s j hj⟩
theorem get_yes (s:ByteArray)(a size:Nat)(hs1:1≤size)(hs8:size≤8)(hin:a+size≤s.size)(hm:s.size≤281474976710656)(w:World):
 Calls Tryz.prog 236 #[s,.int .i64 (a:Int),.int .i64 (size:Int)] w fun e w'=>e= .returned (.tuple #[.int .i64 (Oct.intOf (Oct.getN s.data.toList a size)),true])∧Below w.heap.size w w':=by
 obtain⟨t,ht⟩:=ex (s.extract a (a+size):ByteArray)
 have htl:t.data.toList=(s.data.toList.drop a).take size:=by rw[ht];simp
 have hts:t.size=size:=by rw[ht,ByteArray.size_extract];omega
 have hcv:=fun W=>Lib.run_convert_string_bytes (P:=Tryz.prog) W 9 112 5 (s.extract a (a+size)) Tryz.underlying9 Tryz.underlying112 Tryz.underlying5
 have HT:=Hq ht
 have HL:=Hq htl
 have HS:=Hq hts
 clear ht htl hts
 go_enter Tryz.func236,Tryz.ntmps236
 go_wp2_with fail
 clear hcv
 generalize hwt:Lib.bytesWorld w 5 (s.extract a (a+size))=wt
 have HW:=Hq hwt
 clear hwt
 have HC:=Hq (show ∀ k,k<size→wt.cell? ⟨w.heap.size,k,none⟩=some (.int .u8 ((t.data.toList.getD k 0).toNat:Int))from fun k hk=>by
  rw[← HW.out,← HT.out]
  exact Lib.bytesWorld_cell w 5 t k (by rw[HS.out];exact hk))
 go_loop [8,43] (fun n i=>∃ k:Nat,k≤size∧i= .int .i64 k∧n= .int .u64 (accI t k)) (fun _ i=>size-(intOf i).toNat)
 case atStart=>exact⟨0,Nat.zero_le _,rfl,rfl⟩
 case round=>
  obtain⟨k,hk,rfl,rfl⟩:=hrel
  by_cases hlt:k<size
  ·have hc:=HC.out k hlt
   have HA:=Hq (accI_step t k (by rw[HS.out];exact hlt) (by omega))
   go_wp2_with fail
   go_round
   case rel=>exact⟨k+1,by omega,by go_num,by rw[HA.out]⟩
   case measure=>simp[intOf];omega
  ·obtain rfl:size=k:=by omega
   have HE:=Hq (show wrap64 (accI t size)=Oct.intOf (Oct.getN s.data.toList a size) by
    have h1:t.data.toList.take size=t.data.toList:=List.take_of_length_le (by have:=HS.out;simp;omega)
    have h2:Oct.getL t.data.toList<18446744073709551616:=by
     have:=Oct.getL_lt t.data.toList
     have h3:256^t.data.toList.length≤256^8:=Nat.pow_le_pow_right (by omega) (by have:=HS.out;simp;omega)
     omega
    rw[accI,h1,wrap_int _ h2,HL.out];rfl)
   go_wp2_with fail
   go_ret2
   refine⟨by rw[← HE.out];rfl,?_⟩
   rw[← HW.out]
   exact below_bytes _ _ _
theorem xor_byte (n:Nat)(c:UInt8)(hn:n<4294967296):bits .xor .u32 (n:Int) ((c.toNat:Int)%4294967296)=((n ^^^ c.toNat:Nat):Int):=by
 have:=c.toNat_lt
 rw[show(c.toNat:Int)%4294967296=(c.toNat:Int) by omega,u32_xor_nat _ _ hn (by omega)]
theorem and_one (n:Nat)(hn:n<4294967296):bits .and .u32 (n:Int) 1=((n%2:Nat):Int):=by
 have h:=u32_and_nat n 1 hn (by omega)
 rw[Nat.and_one_is_mod]at h
 exact h
theorem crc_bit (n:Nat)(hn:n<4294967296):bits .xor .u32 ((n:Int)/2) (3988292384*bits .and .u32 (n:Int) 1%4294967296)=(Oct.bit1 n:Int):=by
 rw[and_one n hn]
 unfold Oct.bit1
 by_cases h:n%2=1
 ·rw[if_pos h,h,show(3988292384*((1:Nat):Int))%4294967296=((3988292384:Nat):Int) by omega,show(n:Int)/2=((n/2:Nat):Int) by omega,u32_xor_nat _ _ (by omega) (by omega)]
 ·have h0:n%2=0:=by omega
  rw[if_neg h,h0,show(3988292384*((0:Nat):Int))%4294967296=((0:Nat):Int) by omega,show(n:Int)/2=((n/2:Nat):Int) by omega,u32_xor_nat _ _ (by omega) (by omega),Nat.xor_zero]
theorem crc_not (n:Nat)(hn:n<4294967296):wrap64 (bits .xor .u32 IntKind.u32.max (n:Int))=((n ^^^ 4294967295:Nat):Int):=by
 have hx:4294967295 ^^^ n<2^32:=Nat.xor_lt_two_pow (by omega) hn
 have h:=u32_xor_nat 4294967295 n (by omega) hn
 rw[show IntKind.u32.max=((4294967295:Nat):Int)from rfl,h,Nat.xor_comm]
 rw[Nat.xor_comm]at hx
 exact IntWalk.wrap64_in _ ⟨by omega,by omega⟩
theorem crc_snoc (s:ByteArray)(k:Nat)(h:k<s.size):Oct.crcFrom 4294967295 (s.data.toList.take (k+1))=Oct.crcByte (Oct.crcFrom 4294967295 (s.data.toList.take k)) s[k]:=by
 rw[List.take_succ_eq_append_getElem (by simpa using h),Oct.crcFrom_snoc];rfl
theorem sum_any (s:ByteArray)(hm:s.size≤281474976710656)(w:World):
 Calls Tryz.prog 215 #[s] w fun e w'=>e= .returned (.int .i64 (Oct.sumN s.data.toList))∧w=w':=by
 go_enter Tryz.func215,Tryz.ntmps215
 go_wp2_with fail
 go_loop [3,4] (fun n i=>∃ k:Nat,k≤s.size∧i= .int .i64 k∧n= .int .u32 (Oct.crcFrom 4294967295 (s.data.toList.take k))) (fun _ i=>s.size-(intOf i).toNat)
 case atStart=>exact⟨0,Nat.zero_le _,rfl,rfl⟩
 case round=>
  obtain⟨k,hk,rfl,rfl⟩:=hrel
  have hr:=Oct.crcFrom_lt (s.data.toList.take k) (n:=4294967295) (by omega)
  by_cases hlt:k<s.size
  ·have HX:=Hq (xor_byte (Oct.crcFrom 4294967295 (s.data.toList.take k)) s[k] hr)
   have hr2:Oct.crcFrom 4294967295 (s.data.toList.take k) ^^^ s[k].toNat<4294967296:=Nat.xor_lt_two_pow (n:=32) hr (by have:=s[k].toNat_lt;omega)
   have HN:=Hq (crc_snoc s k hlt)
   go_wp2_with fail
   rw[HX.out]
   generalize hg:Oct.crcFrom 4294967295 (s.data.toList.take k) ^^^ s[k].toNat=r0 at hr2 ⊢
   have HG:=Hq hg
   clear hg
   go_loop [3,18] (fun n i=>∃ j:Nat,j≤8∧i= .int .i64 j∧n= .int .u32 (Oct.bits8 j r0)) (fun _ i=>8-(intOf i).toNat)
   case atStart=>exact⟨0,Nat.zero_le _,rfl,rfl⟩
   case round=>
    obtain⟨j,hj,rfl,rfl⟩:=hrel
    have hb:=Oct.bits8_lt j hr2
    by_cases hjt:j<8
    ·have HB:=Hq (crc_bit (Oct.bits8 j r0) hb)
     have HB2:=Hq (Oct.bits8_succ j r0)
     go_wp2_with fail
     go_round
     case rel=>exact⟨j+1,by omega,by go_num,by rw[HB2.out,← HB.out]⟩
     case measure=>simp[intOf];omega
    ·obtain rfl:j=8:=by omega
     go_wp2_with fail
     go_round
     case rel=>exact⟨k+1,by omega,by go_num,by rw[HN.out,Oct.crcByte,HG.out]⟩
     case measure=>simp[intOf];omega
  ·obtain rfl:k=s.size:=by omega
   go_wp2_with fail
   have HF:=Hq (crc_not _ hr)
   have HA:=Hq (show Oct.crcFrom 4294967295 (s.data.toList.take s.size) ^^^ 4294967295=Oct.sumN s.data.toList by rw[List.take_of_length_le (by simp)];rfl)
   go_ret
   exact⟨by rw[← HA.out,← HF.out];rfl,rfl⟩
theorem putL_step (u k:Nat):Oct.putL u (k+1)=UInt8.ofNat (u/256^k%256)::Oct.putL u k:=by
 induction k generalizing u with
 |zero=>simp[Oct.putL]
 |succ k ih=>
  rw[Oct.putL,ih,Oct.putL]
  simp only[List.cons_append]
  rw[Nat.div_div_eq_div_mul,Nat.pow_succ,Nat.mul_comm 256]
theorem one_byte (c:Nat)(hc:c<256)(W:World):(convert 112 9 (.slice (some ⟨W.heap.size,0,none⟩) 1 1)).run Tryz.prog (W.alloc (.cells #[.int .u8 (c:Int)] 5))= .ok (.string ⟨#[UInt8.ofNat c]⟩) (W.alloc (.cells #[.int .u8 (c:Int)] 5)):=by
 have h:=run_convert_bytes_back (P:=Tryz.prog) (W.alloc (.cells #[.int .u8 (c:Int)] 5)) 112 9 5 ⟨W.heap.size,0,none⟩ 1 [UInt8.ofNat c] Tryz.underlying112 Tryz.underlying5 Tryz.underlying9 (fun j hj=>by
  obtain rfl:j=0:=by simpa using hj
  show World.cell? _ ⟨W.heap.size,0,none⟩=_
  rw[World.cell?_alloc_new]
  have e:(UInt8.ofNat c).toNat=c:=by rw[UInt8.toNat_ofNat'];omega
  simp[e])
 exact h
theorem rput_walk (n:Int)(size:Nat)(hs:size≤8)(w:World):
 Calls Tryz.prog 73 #[n,size] w fun e w'=>e= .returned (.string (Oct.putB n size))∧Below w.heap.size w w':=by
 have HP:=Hq (show Oct.putB n size=⟨(Oct.putL (Oct.word n) size).toArray⟩from by rw[Oct.putB,if_neg (by omega),Int.toNat_natCast])
 go_enter Tryz.func73,Tryz.ntmps73
 go_wp2_with fail
 go_loopw [5,6,7] (fun o u i wr=>∃ k x:Nat,k≤size∧i= .int .i64 k∧u= .int .u64 (x:Int)∧x=Oct.word n/256^k∧o= .string ⟨(Oct.putL (Oct.word n) k).toArray⟩∧Below w.heap.size w wr) (fun _ _ i _=>size-(intOf i).toNat)
 case atStart=>exact⟨0,Oct.word n,Nat.zero_le _,rfl,by rw[← wrap_word],by simp,rfl,Below.refl _ _⟩
 case round=>
  obtain⟨k,x,hk,rfl,rfl,hx,rfl,hb⟩:=hrel
  have HX:=Hq hx
  have hxl:x<18446744073709551616:=by
   rw[hx];exact Nat.lt_of_le_of_lt (Nat.div_le_self _ _) (Oct.word_lt n)
  clear hx
  by_cases hlt:k<size
  ·obtain⟨c,hc⟩:=ex (x%256:Nat)
   obtain⟨y,hy⟩:=ex (x/256:Nat)
   have hand:bits .and .u64 (x:Int) 255=(c:Int):=by
    have h:=bits_and_u64_nat x 255 hxl (by omega)
    rw[show x&&&255=x%256 from Nat.and_two_pow_sub_one_eq_mod x 8,← hc]at h
    exact h
   have hdiv:(x:Int)/256=(y:Int):=by omega
   have hc256:c<256:=by omega
   have hci:(c:Int)<256:=by omega
   have hmod:(c:Int)%256=(c:Int):=by omega
   have hcv:=one_byte c hc256
   have hsz:(Oct.putL (Oct.word n) k).length≤8:=by rw[Oct.putL_length];omega
   generalize hl:Oct.putL (Oct.word n) k=l at hsz ⊢
   have HL:=Hq hl
   have HC:=Hq hc
   have HY:=Hq hy
   clear hl hc hy
   obtain⟨t,ht⟩:=ex (⟨l.toArray⟩:ByteArray)
   have hadd:∀ W:World,(Op.stringOp .add ⟨#[UInt8.ofNat c]⟩ t).run Tryz.prog W= .ok (.string (⟨#[UInt8.ofNat c]⟩++t)) W:=fun W=>run_string_add_sum W _ _ (by
    rw[ht]
    show 1+l.toArray.size≤_
    simp;omega)
   rw[← ht]
   have HT:=Hq ht
   clear ht
   go_wp2_with fail
   go_roundw
   case rel=>exact⟨k+1,y,by omega,by go_num,rfl,by rw[HY.out,HX.out,Nat.pow_succ,Nat.div_div_eq_div_mul],by
    rw[putL_step,HL.out,HT.out,HC.out,HX.out]
    exact congrArg Value.string (ByteArray.ext (by simp)),hb.alloc hb.size _⟩
   case measure=>simp[intOf];omega
  ·obtain rfl:size=k:=by omega
   go_wp2_with fail
   go_ret
   exact⟨by rw[HP.out];rfl,hb⟩
theorem rput_any (n size:Int)(h0:0≤size)(h8:size≤8)(w:World):
 Calls Tryz.prog 73 #[n,size] w fun e w'=>e= .returned (.string (Oct.putB n size))∧Below w.heap.size w w':=by
 obtain⟨k,rfl⟩:=Int.eq_ofNat_of_zero_le h0
 exact rput_walk n k (by omega) w
theorem there_yes (len:Nat)(s:ByteArray)(a size:Nat)(_hl:len=s.size)(hin:a+size≤s.size)(hm:s.size≤281474976710656)(w:World):
 Calls Tryz.prog 185 #[s,.int .i64 (a:Int),.int .i64 (size:Int)] w fun e w'=>e= .returned (.bool true)∧w=w':=by
 clear _hl
 go_enter Tryz.func185,Tryz.ntmps185
 go_wp2_with fail
 go_ret
 exact⟨congrArg (fun b=>Ending.returned (.bool b)) (decide_eq_true (by omega)),rfl⟩
theorem rget_yes (s:ByteArray)(a size:Nat)(hs1:1≤size)(hs8:size≤8)(hin:a+size≤s.size)(hm:s.size≤281474976710656)(w:World):
 Calls Tryz.prog 143 #[s,.int .i64 (a:Int),.int .i64 (size:Int)] w fun e w'=>e= .returned (.tuple #[.int .i64 (Oct.intOf (Oct.getN s.data.toList a size)),true])∧w=w':=by
 obtain⟨t,ht⟩:=ex (s.extract a (a+size):ByteArray)
 have htl:t.data.toList=(s.data.toList.drop a).take size:=by rw[ht];simp
 have hts:t.size=size:=by rw[ht,ByteArray.size_extract];omega
 have hlt:∀ k,k<size→a+k<s.size:=fun k h=>by omega
 have htb:∀ k (h:k<size),(t.data[k]?.getD 0)=s[a+k]'(hlt k h):=by
  intro k h
  have h1:t.data.toList[k]? =s.data.toList[a+k]? :=by
   rw[htl,List.getElem?_take_of_lt h,List.getElem?_drop]
  have h2:t.data[k]? =s.data[a+k]? :=by simpa using h1
  rw[h2,Array.getElem?_eq_getElem (show a+k<s.data.size from by show a+k<s.size;omega)]
  rfl
 have HT:=Hq htb
 have HL:=Hq htl
 have HS:=Hq hts
 clear ht htl hts htb
 go_enter Tryz.func143,Tryz.ntmps143
 go_wp2_with (go_at_call 185;refine(there_yes _ s a size rfl hin hm _).mono ?_;rintro e w' ⟨rfl,rfl⟩)
 go_loop [8,9] (fun n i=>∃ k:Nat,k≤size∧i= .int .i64 k∧n= .int .u64 (accI t k)) (fun _ i=>size-(intOf i).toNat)
 case atStart=>exact⟨0,Nat.zero_le _,rfl,rfl⟩
 case round=>
  obtain⟨k,hk,rfl,rfl⟩:=hrel
  by_cases hlt:k<size
  ·have HA:=Hq (accI_step t k (by rw[HS.out];exact hlt) (by omega))
   have HB:=Hq (HT.out k hlt)
   go_wp2_with fail
   go_round
   case rel=>exact⟨k+1,by omega,by go_num,by rw[← HA.out,HB.out]⟩
   case measure=>simp[intOf];omega
  ·obtain rfl:size=k:=by omega
   have HE:=Hq (show wrap64 (accI t size)=Oct.intOf (Oct.getN s.data.toList a size) by
    have h1:t.data.toList.take size=t.data.toList:=List.take_of_length_le (by have:=HS.out;simp;omega)
    have h2:Oct.getL t.data.toList<18446744073709551616:=by
     have:=Oct.getL_lt t.data.toList
     have h3:256^t.data.toList.length≤256^8:=Nat.pow_le_pow_right (by omega) (by have:=HS.out;simp;omega)
     omega
    rw[accI,h1,wrap_int _ h2,HL.out];rfl)
   go_wp2_with fail
   go_ret2
   exact⟨by rw[← HE.out];rfl,rfl⟩
theorem step_any (n:Nat)(hn:n<4294967296)(w:World):
 Calls Tryz.prog 167 #[.int .u64 (n:Int)] w fun e w'=>e= .returned (.int .u64 (Oct.bit1 n:Int))∧w=w':=by
 have hand:bits .and .u64 (n:Int) 1=((n%2:Nat):Int):=by
  have h:=bits_and_u64_nat n 1 (by omega) (by omega)
  rw[Nat.and_one_is_mod]at h
  exact h
 by_cases h:n%2=1
 ·rw[h]at hand
  have hx:=bits_xor_u64_nat (n/2) 3988292384 (by omega) (by omega)
  have HX:=Hq (show bits .xor .u64 ((n:Int)/2) 3988292384=(Oct.bit1 n:Int) by rw[Oct.bit1,if_pos h,← hx];simp)
  clear hx h
  go_enter Tryz.func167,Tryz.ntmps167
  go_wp2_with fail
  go_ret
  exact⟨by rw[← HX.out];rfl,rfl⟩
 ·have h0:n%2=0:=by omega
  rw[h0]at hand
  have HX:=Hq (show(n:Int)/2=(Oct.bit1 n:Int) by rw[Oct.bit1,if_neg h];simp)
  clear h h0
  go_enter Tryz.func167,Tryz.ntmps167
  go_wp2_with fail
  go_ret
  exact⟨by rw[← HX.out];rfl,rfl⟩
theorem xor_byte64 (n:Nat)(c:UInt8)(hn:n<4294967296):bits .xor .u64 (n:Int) (IntKind.u64.wrap (c.toNat:Int))=((n ^^^ c.toNat:Nat):Int):=by
 have:=c.toNat_lt
 rw[IntKind.wrap_u64,show(c.toNat:Int)%18446744073709551616=(c.toNat:Int) by omega,bits_xor_u64_nat _ _ (by omega) (by omega)]
theorem crc_not64 (n:Nat)(hn:n<4294967296):wrap64 (bits .xor .u64 (n:Int) 4294967295)=((n ^^^ 4294967295:Nat):Int):=by
 have hx:n ^^^ 4294967295<2^32:=Nat.xor_lt_two_pow hn (by omega)
 have h:=bits_xor_u64_nat n 4294967295 (by omega) (by omega)
 rw[show(4294967295:Int)=((4294967295:Nat):Int)from rfl,h]
 exact IntWalk.wrap64_in _ ⟨by omega,by omega⟩
theorem rsum_any (s:ByteArray)(hm:s.size≤281474976710656)(w:World):
 Calls Tryz.prog 123 #[s] w fun e w'=>e= .returned (.int .i64 (Oct.sumN s.data.toList))∧w=w':=by
 go_enter Tryz.func123,Tryz.ntmps123
 go_wp2_with fail
 go_loop [3,4] (fun n i=>∃ k:Nat,k≤s.size∧i= .int .i64 k∧n= .int .u64 (Oct.crcFrom 4294967295 (s.data.toList.take k))) (fun _ i=>s.size-(intOf i).toNat)
 case atStart=>exact⟨0,Nat.zero_le _,rfl,rfl⟩
 case round=>
  obtain⟨k,hk,rfl,rfl⟩:=hrel
  have hr:=Oct.crcFrom_lt (s.data.toList.take k) (n:=4294967295) (by omega)
  by_cases hlt:k<s.size
  ·have HX:=Hq (xor_byte64 (Oct.crcFrom 4294967295 (s.data.toList.take k)) s[k] hr)
   have hr2:Oct.crcFrom 4294967295 (s.data.toList.take k) ^^^ s[k].toNat<4294967296:=Nat.xor_lt_two_pow (n:=32) hr (by have:=s[k].toNat_lt;omega)
   have HN:=Hq (crc_snoc s k hlt)
   go_wp2_with fail
   rw[HX.out]
   generalize hg:Oct.crcFrom 4294967295 (s.data.toList.take k) ^^^ s[k].toNat=r0 at hr2 ⊢
   have HG:=Hq hg
   clear hg
   go_loop [3,5] (fun n i=>∃ j:Nat,j≤8∧i= .int .i64 j∧n= .int .u64 (Oct.bits8 j r0)) (fun _ i=>8-(intOf i).toNat)
   case atStart=>exact⟨0,Nat.zero_le _,rfl,rfl⟩
   case round=>
    obtain⟨j,hj,rfl,rfl⟩:=hrel
    have hb:=Oct.bits8_lt j hr2
    by_cases hjt:j<8
    ·have HB2:=Hq (Oct.bits8_succ j r0)
     go_wp2_with (go_at_call 167;refine(step_any _ hb _).mono ?_;rintro e w' ⟨rfl,rfl⟩)
     go_round
     case rel=>exact⟨j+1,by omega,by go_num,by rw[HB2.out]⟩
     case measure=>simp[intOf];omega
    ·obtain rfl:j=8:=by omega
     go_wp2_with fail
     go_round
     case rel=>exact⟨k+1,by omega,by go_num,by rw[HN.out,Oct.crcByte,HG.out]⟩
     case measure=>simp[intOf];omega
  ·obtain rfl:k=s.size:=by omega
   have HF:=Hq (crc_not64 _ hr)
   have HA:=Hq (show Oct.crcFrom 4294967295 (s.data.toList.take s.size) ^^^ 4294967295=Oct.sumN s.data.toList by rw[List.take_of_length_le (by simp)];rfl)
   go_wp2_with fail
   go_ret
   exact⟨by rw[← HA.out,← HF.out];rfl,rfl⟩
end Go.Proofs.YtmfkhdhnbkambaaGreatDoor
namespace Go.Proofs
open Go.Shelf
def Tryz.lays105_ren:Go.Shelf.Ren:=⟨fun|105=>177|212=>209|99=>210|165=>211|166=>175|170=>212|169=>176|263=>259|264=>260|206=>261|240=>208|241=>262|276=>258|277=>289|n=>n,fun|9=>9|3=>3|4=>4|20=>20|0=>0|46=>161|109=>206|5=>5|72=>189|76=>192|51=>218|146=>243|53=>160|148=>245|70=>187|37=>112|75=>191|127=>205|164=>241|80=>124|n=>n,fun|n=>n⟩
theorem Tryz.lays105:Go.Proofs.Lays.n105 Tryz.prog Tryz.lays105_ren:={
 mixed:=by kernel_rfl
 f99:=Tryz.func210.trans (congrArg some Kr)
 f105:=Tryz.func177.trans (congrArg some Kr)
 f165:=Tryz.func211.trans (congrArg some Kr)
 f166:=Tryz.func175.trans (congrArg some Kr)
 f169:=Tryz.func176.trans (congrArg some Kr)
 f170:=Tryz.func212.trans (congrArg some Kr)
 f206:=Tryz.func261.trans (congrArg some Kr)
 f212:=Tryz.func209.trans (congrArg some Kr)
 f240:=Tryz.func208.trans (congrArg some Kr)
 f241:=Tryz.func262.trans (congrArg some Kr)
 f263:=Tryz.func259.trans (congrArg some Kr)
 f264:=Tryz.func260.trans (congrArg some Kr)
 f276:=Tryz.func258.trans (congrArg some Kr)
 f277:=Tryz.func289.trans (congrArg some Kr)
 t0:=Tryz.underlying0
 a0:=Tryz.isAgg0
 z0:=Tryz.sizeOf0
 v0:=Tryz.zeroValue0
 t3:=Tryz.underlying3
 a3:=Tryz.isAgg3
 z3:=Tryz.sizeOf3
 v3:=Tryz.zeroValue3
 t4:=Tryz.underlying4
 a4:=Tryz.isAgg4
 z4:=Tryz.sizeOf4
 v4:=Tryz.zeroValue4
 t5:=Tryz.underlying5
 a5:=Tryz.isAgg5
 z5:=Tryz.sizeOf5
 v5:=Tryz.zeroValue5
 t9:=Tryz.underlying9
 a9:=Tryz.isAgg9
 z9:=Tryz.sizeOf9
 v9:=Tryz.zeroValue9
 t20:=Tryz.underlying20
 a20:=Tryz.isAgg20
 z20:=Tryz.sizeOf20
 v20:=Tryz.zeroValue20
 t37:=Tryz.underlying112
 a37:=Tryz.isAgg112
 z37:=Tryz.sizeOf112
 v37:=Tryz.zeroValue112
 t46:=Tryz.underlying161
 a46:=Tryz.isAgg161
 z46:=Tryz.sizeOf161
 v46:=Tryz.zeroValue161
 t51:=Tryz.underlying218
 a51:=Tryz.isAgg218
 z51:=Tryz.sizeOf218
 v51:=Tryz.zeroValue218
 t53:=Tryz.underlying160
 a53:=Tryz.isAgg160
 z53:=Tryz.sizeOf160
 v53:=Tryz.zeroValue160
 t70:=Tryz.underlying187
 a70:=Tryz.isAgg187
 z70:=Tryz.sizeOf187
 v70:=Tryz.zeroValue187
 t72:=Tryz.underlying189
 a72:=Tryz.isAgg189
 z72:=Tryz.sizeOf189
 v72:=Tryz.zeroValue189
 t75:=Tryz.underlying191
 a75:=Tryz.isAgg191
 z75:=Tryz.sizeOf191
 v75:=Tryz.zeroValue191
 t76:=Tryz.underlying192
 a76:=Tryz.isAgg192
 z76:=Tryz.sizeOf192
 v76:=Tryz.zeroValue192
 t109:=Tryz.underlying206
 a109:=Tryz.isAgg206
 z109:=Tryz.sizeOf206
 v109:=Tryz.zeroValue206
 t127:=Tryz.underlying205
 a127:=Tryz.isAgg205
 z127:=Tryz.sizeOf205
 v127:=Tryz.zeroValue205
 t146:=Tryz.underlying243
 a146:=Tryz.isAgg243
 z146:=Tryz.sizeOf243
 v146:=Tryz.zeroValue243
 t148:=Tryz.underlying245
 a148:=Tryz.isAgg245
 z148:=Tryz.sizeOf245
 v148:=Tryz.zeroValue245
 t164:=Tryz.underlying241
 a164:=Tryz.isAgg241
 z164:=Tryz.sizeOf241
 v164:=Tryz.zeroValue241}
theorem Tryz.Builder_Extra_105:Builder.Extra Tryz.prog Tryz.lays105_ren:={
 sizeBuilder:=by kernel_rfl
 liesBuilder:=by kernel_rfl
 t5:=Tryz.underlying5
 a5:=Tryz.isAgg5
 z5:=Tryz.sizeOf5
 v5:=Tryz.zeroValue5
 infoByte:=by kernel_rfl
 cellsByte:=by kernel_rfl
 sizeByte:=by kernel_rfl
 neB5:=by decide}
open Go.RowKit Go.Lib in
theorem Tryz.strings_Repeat (s:ByteArray)(c:Nat)(w:World)(hc:c≤9223372036854775807)(hlen:s.size*c≤140737488355328):
 Calls Tryz.prog 177 #[s,c] w fun e w'=>e= .returned (.string ⟨(Lib.repeatL s.data.toList c).toArray⟩)∧Below w.heap.size w w':=Any.strings_Repeat Tryz.lays105 Tryz.Builder_Extra_105 s c w hc hlen
def Tryz.laysNm216_ren:Go.Shelf.Ren:=⟨fun|16=>214|n=>n,fun|24=>26|9=>9|4=>4|n=>n,fun|n=>n⟩
theorem Tryz.laysNm216:Go.Proofs.Lays2.n16 Tryz.prog Tryz.laysNm216_ren:={
 mixed:=by kernel_rfl
 f16:=Tryz.func214.trans (congrArg some Kr)
 t4:=Tryz.underlying4
 a4:=Tryz.isAgg4
 z4:=Tryz.sizeOf4
 v4:=Tryz.zeroValue4
 t9:=Tryz.underlying9
 a9:=Tryz.isAgg9
 z9:=Tryz.sizeOf9
 v9:=Tryz.zeroValue9
 t24:=Tryz.underlying26
 a24:=Tryz.isAgg26
 z24:=Tryz.sizeOf26
 v24:=Tryz.zeroValue26
 i9:=by kernel_rfl}
open Go.RowKit Go.Lib in
theorem Tryz.slices_Clone_string (b off n c:Nat)(zs:List ByteArray)(w:World)(hz:n≤zs.length)(hbig:n*16≤140737488355328)(hc:∀ j,j<zs.length→w.cell? ⟨b,off+j,none⟩=some (.string (zs.getD j ByteArray.empty))):
 Calls Tryz.prog 214 #[.slice (some ⟨b,off,none⟩) n c] w fun e w'=>∃ v',e= .returned v'∧w'.ownsRow w.heap.size 9 1 v' n ((zs.take n).map (Value.string))∧v'≠ .slice none 0 0∧Below w.heap.size w w':=Any.slices_Clone_string Tryz.laysNm216 b off n c zs w hz hbig hc
end Go.Proofs
namespace Go.Proofs.YtmfkhdhnbkambaaGreatDoor
open Go.RowKit
def Bld (B H b:Nat)(l:List UInt8)(w:World):Prop:=
 b<B∧∃ p v,w.heap[b]? =some (.cells #[p,v] 189 (0,0))∧(p= .pointer none∨p= .pointer (some ⟨b,0,none⟩))∧w.ownsRow B 5 1 v l.length (Lib.byteCells l)∧(∀ g,v.ownBlock=some g→g<H)
structure KeptB (B b:Nat) (w w':World):Prop where
 os:w'.os=w.os
 tape:w'.tape=w.tape
 output:w'.output=w.output
 size:w.heap.size≤w'.heap.size
 block:∀ k,k<B→k≠b→w'.heap[k]? =w.heap[k]?
theorem KeptB.refl (B b:Nat)(w:World):KeptB B b w w:=⟨rfl,rfl,rfl,Nat.le_refl _,fun _ _ _=>rfl⟩
theorem KeptB.trans {B b:Nat}{u v w:World}(h:KeptB B b u v)(k:KeptB B b v w):KeptB B b u w:=
 ⟨k.os.trans h.os,k.tape.trans h.tape,k.output.trans h.output,Nat.le_trans h.size k.size,fun i hi hb=>(k.block i hi hb).trans (h.block i hi hb)⟩
theorem KeptB.of_below {B b:Nat}{u v:World}(hB:B≤u.heap.size)(h:Below u.heap.size u v):KeptB B b u v:=
 ⟨h.os,h.tape,h.output,h.size,fun i hi _=>h.block i (by omega)⟩
theorem KeptB.below {B b lo:Nat}{u v:World}(h:KeptB B b u v)(h1:lo≤B)(h2:lo≤b):Below lo u v:=
 ⟨h.os,h.tape,h.output,h.size,fun i hi=>h.block i (by omega) (by omega)⟩
theorem copyCheck_fresh (b:Nat)(w:World)(h0:w.cell? ⟨b,0,none⟩=some (.pointer none))(hsh:w.shape? b=some (189,2))(hfz:w.frozen? ⟨b,0,none⟩=false):
 Calls Tryz.prog 208 #[.pointer (some ⟨b,0,none⟩)] w fun e w'=>e= .returned (.tuple #[])∧w'=w.setCell ⟨b,0,none⟩ (.pointer (some ⟨b,0,none⟩)):=
 Any.Builder_copyCheck_fresh (ρ:=Tryz.lays105_ren) {Tryz.lays105 with} Tryz.Builder_Extra_105.toX72 b w h0 hsh hfz
theorem copyCheck_used (b:Nat)(w:World)(h0:w.cell? ⟨b,0,none⟩=some (.pointer (some ⟨b,0,none⟩))):
 Calls Tryz.prog 208 #[.pointer (some ⟨b,0,none⟩)] w fun e w'=>e= .returned (.tuple #[])∧w'=w:=
 Any.Builder_copyCheck_used (ρ:=Tryz.lays105_ren) {Tryz.lays105 with} Tryz.Builder_Extra_105.toX72 b w h0
theorem cell_of_blk {w:World}{g:Nat}{cs:Array Value}{t:TypeId}{fr:Nat×Nat}(h:w.heap[g]? =some (.cells cs t fr))(i:Nat):w.cell? ⟨g,i,none⟩=cs[i]? :=by simp[World.cell?,h]
theorem heap_set (w:World)(b i:Nat)(p v u:Value)(T:TypeId)(h:w.heap[b]? =some (.cells #[p,v] T (0,0))):(w.setCell ⟨b,i,none⟩ u).heap[b]? =some (.cells (#[p,v].setIfInBounds i u) T (0,0)):=by
 simp[World.setCell,Array.getElem?_modify,h]
theorem bld_size {B H b:Nat}{l:List UInt8}{w:World}(h:Bld B H b l w):b<w.heap.size:=by
 obtain⟨_,p,v,hb,_⟩:=h
 rcases Nat.lt_or_ge b w.heap.size with h'|h'
 ·exact h'
 ·rw[Array.getElem?_eq_none h']at hb;cases hb
theorem own_set {w:World}{B b i:Nat}{v u:Value}{n:Nat}{xs:List Value}(hbB:b<B)(h:w.ownsRow B 5 1 v n xs):(w.setCell ⟨b,i,none⟩ u).ownsRow B 5 1 v n xs:=by
 refine⟨h.1,?_⟩
 rcases h.2 with hz|⟨g,cap,cur,hv,hg,hh,r⟩
 ·exact .inl hz
 ·exact .inr ⟨g,cap,cur,hv,hg,by rw[Below.heap_setCell _ _ _ _ (by show g≠b;omega)];exact hh,r⟩
theorem copyCheck_any (B H b:Nat)(l:List UInt8)(w:World)(h:Bld B H b l w):
 Calls Tryz.prog 208 #[.pointer (some ⟨b,0,none⟩)] w fun e w'=>e= .returned (.tuple #[])∧
  (b<B∧∃ v,w'.heap[b]? =some (.cells #[.pointer (some ⟨b,0,none⟩),v] 189 (0,0))∧w'.ownsRow B 5 1 v l.length (Lib.byteCells l)∧(∀ g,v.ownBlock=some g→g<H))∧KeptB B b w w'∧w'.heap.size=w.heap.size:=by
 obtain⟨hbB,p,v,hb,hp,hown,hg⟩:=h
 rcases hp with rfl|rfl
 ·refine(copyCheck_fresh b w (by rw[cell_of_blk hb];rfl) (by simp[World.shape?,hb]) (by simp[World.frozen?,hb])).mono ?_
  rintro e w' ⟨rfl,rfl⟩
  refine⟨rfl,⟨hbB,v,heap_set w b 0 _ _ _ _ hb,own_set hbB hown,hg⟩,⟨rfl,rfl,rfl,by simp[World.setCell],fun k _ hk=>Below.heap_setCell _ _ _ _ hk⟩,by simp[World.setCell]⟩
 ·refine(copyCheck_used b w (by rw[cell_of_blk hb];rfl)).mono ?_
  rintro e w' ⟨rfl,rfl⟩
  exact⟨rfl,⟨hbB,v,hb,hown,hg⟩,⟨rfl,rfl,rfl,Nat.le_refl _,fun _ _ _=>rfl⟩,rfl⟩
theorem cells_byte:Tryz.prog.cellsOf 5=1:=by kernel_rfl
theorem info_byte:(Tryz.prog.info? 5).map (fun i=>(i.zero,i.size,i.bytes))=some (some (.int .u8 0),1,1):=by kernel_rfl
theorem write_any (B H b:Nat)(l:List UInt8)(s:ByteArray)(w:World)(h:Bld B H b l w)(hlen:l.length+s.size≤140737488355328)(hBw:B≤w.heap.size):
 Calls Tryz.prog 175 #[.pointer (some ⟨b,0,none⟩),s] w fun e w'=>e= .returned (.tuple #[s.size,.nilIface])∧Bld B w'.heap.size b (l++s.data.toList) w'∧KeptB B b w w':=by
 obtain⟨i0,hi,hz0,hz1,hz2⟩:=info_parts info_byte
 have HC:=Hq (copyCheck_any B H b l w h)
 clear h
 go_enter Tryz.func175,Tryz.ntmps175
 go_wp2_with (go_at_call 208;refine HC.out.mono ?_)
 rintro e w1 ⟨rfl,⟨hbB,v,hbk,hown,hg⟩,hk1,hs1⟩
 have c1:w1.cell? ⟨b,1,none⟩=some v:=by rw[cell_of_blk hbk];rfl
 go_wp2_with (at_builtin;refine Lib.wpList_append_own_string _ rfl _ _ 112 9 rfl B 5 i0 Tryz.underlying112 Tryz.underlying9 hi hz0 hz1 hz2 _ _ _ rfl hown s rfl ?c3 ?c4 ?c5 ?_)
 case c3=>unfold maxLen;omega
 case c4=>omega
 case c5=>omega
 intro v' w2 hown' hgrow _
 have hlt:b<w1.heap.size:=by
  rcases Nat.lt_or_ge b w1.heap.size with h'|h'
  ·exact h'
  ·rw[Array.getElem?_eq_none h']at hbk;cases hbk
 have hne:v.ownBlock≠some b:=fun e=>by
  have:=(hown.lt b e).1;omega
 have hb2:w2.heap[b]? =some (.cells #[.pointer (some ⟨b,0,none⟩),v] 189 (0,0)):=by
  rw[hgrow.block b hlt (fun e=>hne e.symm)];exact hbk
 have d1:w2.cell? ⟨b,1,none⟩=some v:=by rw[cell_of_blk hb2];rfl
 have f1:w2.frozen? ⟨b,1,none⟩=false:=by simp[World.frozen?,hb2]
 obtain⟨ao,n',cap,rfl⟩:∃ ao n' cap,v'= .slice ao n' cap:=by
  rcases hown'.2 with⟨hv,_⟩|⟨g,cap,cur,hv,_⟩
  ·exact⟨_,_,_,hv⟩
  ·exact⟨_,_,_,hv⟩
 go_wp2_with fail
 go_ret2
 refine⟨rfl,?_,?_⟩
 ·have hbs:Lib.byteCells (l++s.data.toList)=Lib.byteCells l++Lib.strCells s:=by
   simp[Lib.byteCells,Lib.strCells]
  refine⟨hbB,_,_,heap_set w2 b 1 _ _ _ _ hb2,.inr rfl,?_,fun g hg=>?_⟩
  ·have:=own_set (i:=1) (u:=.slice ao n' cap) hbB hown'
   rw[hbs,List.length_append,show s.data.toList.length=s.size by simp]
   exact this
  ·have:=(hown'.lt g hg).2
   simpa[World.setCell]using this
 ·refine⟨hgrow.os.trans hk1.os,hgrow.tape.trans hk1.tape,hgrow.output.trans hk1.output,?_,fun k hk hkb=>?_⟩
  ·have:=hgrow.size
   simp[World.setCell];omega
  ·rw[Below.heap_setCell _ _ _ _ hkb,hgrow.block k (by omega) (fun e=>by have:=(hown.lt k e.symm).1;omega),hk1.block k hk hkb]
structure KeptR (B H:Nat) (w w':World):Prop where
 os:w'.os=w.os
 tape:w'.tape=w.tape
 output:w'.output=w.output
 size:w.heap.size≤w'.heap.size
 block:∀ k,k<w.heap.size→(k<B∨H≤k)→w'.heap[k]? =w.heap[k]?
theorem KeptR.freeze (B H g n:Nat)(w:World)(h1:B≤g)(h2:g<H):KeptR B H w (w.drew.freeze ⟨g,0,none⟩ n):=by
 have hh:∀ W:World,(W.freeze ⟨g,0,none⟩ n).os=W.os∧(W.freeze ⟨g,0,none⟩ n).tape=W.tape∧(W.freeze ⟨g,0,none⟩ n).output=W.output∧(W.freeze ⟨g,0,none⟩ n).heap.size=W.heap.size∧∀ k,k≠g→(W.freeze ⟨g,0,none⟩ n).heap[k]? =W.heap[k]? :=by
  intro W
  unfold World.freeze
  split
  ·exact⟨rfl,rfl,rfl,rfl,fun _ _=>rfl⟩
  ·refine⟨rfl,rfl,rfl,by simp,fun k hk=>?_⟩
   simp only[Array.getElem?_modify]
   rw[if_neg (fun e=>hk e.symm)]
 obtain⟨e1,e2,e3,e4,e5⟩:=hh w.drew
 exact⟨e1,e2,e3,by rw[e4];exact Nat.le_refl _,fun k _ hk=>e5 k (by omega)⟩
theorem ptr_type:Tryz.prog.underlying 205=some (.pointer 5):=by kernel_rfl
theorem string_some (B H b:Nat)(l:List UInt8)(w:World)(h:Bld B H b l w)(h0:l≠[]):
 Calls Tryz.prog 176 #[.pointer (some ⟨b,0,none⟩)] w fun e w'=>e= .returned (.string ⟨l.toArray⟩)∧KeptR B H w w':=by
 obtain⟨hbB,p,v,hbk,hp,hown,hg⟩:=h
 have hl0:l.length≠0:=by simpa using h0
 obtain⟨g,cap,cur,rfl,hbg,hgc,hnc,hcm,hcs,htake⟩:∃ g cap cur,v= .slice (some ⟨g,0,none⟩) l.length cap∧B≤g∧w.heap[g]? =some (.cells cur 5 (0,0))∧l.length≤cap∧cap≤maxLen∧cur.size=cap*1∧cur.toList.take (l.length*1)=Lib.byteCells l:=by
  rcases hown.2 with⟨_,hz⟩|⟨g,cap,cur,hv,r⟩
  ·exact absurd hz hl0
  ·exact⟨g,cap,cur,hv,r⟩
 have hgH:g<H:=hg g rfl
 have c1:w.drew.cell? ⟨b,1,none⟩=some (.slice (some ⟨g,0,none⟩) l.length cap):=by
  have:w.drew.heap[b]? =some (.cells #[p,.slice (some ⟨g,0,none⟩) l.length cap] 189 (0,0)):=hbk
  rw[cell_of_blk this];rfl
 have hSD:(Builtin.unsafeSliceData_ #[112] 205 #[.slice (some ⟨g,0,none⟩) l.length cap]).run Tryz.prog w.drew= .ok (.pointer (some ⟨g,0,none⟩)) w.drew:=
  Lib.run_unsafeSliceData_row _ _ _ _ _ _ (by omega)
 have hUS:(Builtin.unsafeString_ #[205,3] 9 #[.pointer (some ⟨g,0,none⟩),l.length]).run Tryz.prog w.drew= .ok (.string ⟨l.toArray⟩) (w.drew.freeze ⟨g,0,none⟩ l.length):=by
  refine Lib.run_unsafeString_row w.drew 205 3 9 5 ptr_type cells_byte g cur.size (by have hg':w.drew.heap[g]? =some (.cells cur 5 (0,0)):=hgc;simp[World.shape?,hg']) l h0 (by omega) (by unfold maxLen at hcm;omega) ?_
  intro j x hx
  have:=hown.cells (g:=g) rfl j (.int .u8 x.toNat) (by simp[Lib.byteCells,hx])
  exact this
 have HK:=KeptR.freeze B H g l.length w hbg hgH
 clear hown hbk htake hcs hcm hnc hgc hg h0
 go_enter Tryz.func176,Tryz.ntmps176
 go_wp2
 go_region
 all_goals (go_wp2;go_ret;exact⟨rfl,HK⟩)
theorem string_any (B H b:Nat)(l:List UInt8)(w:World)(h:Bld B H b l w):
 Calls Tryz.prog 176 #[.pointer (some ⟨b,0,none⟩)] w fun e w'=>e= .returned (.string ⟨l.toArray⟩)∧KeptR B H w w':=by
 by_cases h0:l=[]
 ·subst h0
  obtain⟨hbB,p,v,hbk,hp,hown,hg⟩:=h
  have key:Calls Tryz.prog 176 #[.pointer (some ⟨b,0,none⟩)] w fun e w'=>e= .returned (.string ⟨#[]⟩)∧Below w.heap.size w w':=by
   rcases hown.2 with⟨rfl,_⟩|⟨g,cap,cur,rfl,_,hgc,_,_,hcs,_⟩
   ·exact Any.Builder_String_nil (ρ:=Tryz.lays105_ren) {Tryz.lays105 with} Tryz.Builder_Extra_105 w.heap.size b p w hbk
   ·by_cases hc:cap=0
    ·subst hc
     exact Any.Builder_String_noroom (ρ:=Tryz.lays105_ren) {Tryz.lays105 with} Tryz.Builder_Extra_105 w.heap.size b g p cur w (Nat.le_refl _) hbk hgc
    ·exact Any.Builder_String_room (ρ:=Tryz.lays105_ren) {Tryz.lays105 with} Tryz.Builder_Extra_105 w.heap.size b g cap p w hc hbk
  refine key.mono ?_
  rintro e w' ⟨rfl,hb⟩
  exact⟨rfl,hb.os,hb.tape,hb.output,hb.size,fun k hk _=>hb.block k hk⟩
 ·exact string_some B H b l w h h0
theorem Bld.fresh (B H b:Nat)(w:World)(hb:b<B)(h:w.heap[b]? =some (.cells #[.pointer none,"s"] 189 (0,0))):Bld B H b [] w:=
 ⟨hb,_,_,h,.inl rfl,⟨rfl,.inl ⟨rfl,rfl⟩⟩,fun g hg=>by simp[Value.ownBlock]at hg⟩
theorem Bld.kept {B H b:Nat}{l:List UInt8}{w w':World}(h:Bld B H b l w)(hk:∀ k,k<w.heap.size→(k=b∨(B≤k∧k<H))→w'.heap[k]? =w.heap[k]?):Bld B H b l w':=by
 have hlt:=bld_size h
 obtain⟨hbB,p,v,hb,hp,hown,hg⟩:=h
 refine⟨hbB,p,v,by rw[hk b hlt (.inl rfl)];exact hb,hp,⟨hown.1,?_⟩,hg⟩
 rcases hown.2 with hz|⟨g,cap,cur,rfl,hbg,hgc,r⟩
 ·exact .inl hz
 ·have hgl:g<w.heap.size:=by
   rcases Nat.lt_or_ge g w.heap.size with h'|h'
   ·exact h'
   ·rw[Array.getElem?_eq_none h']at hgc;cases hgc
  exact .inr ⟨g,cap,cur,rfl,hbg,by rw[hk g hgl (.inr ⟨hbg,hg g rfl⟩)];exact hgc,r⟩
theorem Bld.below {B H b:Nat}{l:List UInt8}{w w':World}(h:Bld B H b l w)(hb:Below w.heap.size w w'):Bld B H b l w':=
 h.kept fun k hk _=>hb.block k hk
theorem KeptR.below {B H lo:Nat}{w w':World}(h:KeptR B H w w')(h1:lo≤B)(h2:lo≤w.heap.size):Below lo w w':=
 ⟨h.os,h.tape,h.output,h.size,fun k hk=>h.block k (by omega) (.inl (by omega))⟩
theorem Bld.later {B H H' b:Nat}{l:List UInt8}{w:World}(h:Bld B H b l w)(hH:H≤H'):Bld B H' b l w:=by
 obtain⟨hbB,p,v,hb,hp,hown,hg⟩:=h
 exact⟨hbB,p,v,hb,hp,hown,fun g hgg=>Nat.lt_of_lt_of_le (hg g hgg) hH⟩
end Go.Proofs.YtmfkhdhnbkambaaGreatDoor
namespace Go.Proofs
open Go.Shelf
def Tryz.laysM171_ren:Go.Shelf.Ren:=⟨fun|171=>113|243=>155|246=>196|283=>238|284=>239|285=>240|286=>241|129=>225|317=>272|318=>273|319=>274|320=>275|337=>296|338=>297|n=>n,fun|3=>3|9=>9|2=>2|4=>4|171=>221|0=>0|53=>160|37=>112|5=>5|173=>223|212=>255|51=>218|20=>20|213=>256|46=>161|232=>280|233=>281|n=>n,fun|17=>0|18=>4|19=>5|n=>n⟩
theorem Tryz.laysM171:Go.Proofs.LaysM.n171 Tryz.prog Tryz.laysM171_ren:={
 mixed:=by kernel_rfl
 f129:=Tryz.func225.trans (congrArg some Kr)
 f171:=Tryz.func113.trans (congrArg some Kr)
 f243:=Tryz.func155.trans (congrArg some Kr)
 f246:=Tryz.func196.trans (congrArg some Kr)
 f283:=Tryz.func238.trans (congrArg some Kr)
 f284:=Tryz.func239.trans (congrArg some Kr)
 f285:=Tryz.func240.trans (congrArg some Kr)
 f286:=Tryz.func241.trans (congrArg some Kr)
 f317:=Tryz.func272.trans (congrArg some Kr)
 f318:=Tryz.func273.trans (congrArg some Kr)
 f319:=Tryz.func274.trans (congrArg some Kr)
 f320:=Tryz.func275.trans (congrArg some Kr)
 f337:=Tryz.func296.trans (congrArg some Kr)
 f338:=Tryz.func297.trans (congrArg some Kr)
 t0:=Tryz.underlying0
 a0:=Tryz.isAgg0
 z0:=Tryz.sizeOf0
 v0:=Tryz.zeroValue0
 t2:=Tryz.underlying2
 a2:=Tryz.isAgg2
 z2:=Tryz.sizeOf2
 v2:=Tryz.zeroValue2
 t3:=Tryz.underlying3
 a3:=Tryz.isAgg3
 z3:=Tryz.sizeOf3
 v3:=Tryz.zeroValue3
 t4:=Tryz.underlying4
 a4:=Tryz.isAgg4
 z4:=Tryz.sizeOf4
 v4:=Tryz.zeroValue4
 t5:=Tryz.underlying5
 a5:=Tryz.isAgg5
 z5:=Tryz.sizeOf5
 v5:=Tryz.zeroValue5
 t9:=Tryz.underlying9
 a9:=Tryz.isAgg9
 z9:=Tryz.sizeOf9
 v9:=Tryz.zeroValue9
 t20:=Tryz.underlying20
 a20:=Tryz.isAgg20
 z20:=Tryz.sizeOf20
 v20:=Tryz.zeroValue20
 t37:=Tryz.underlying112
 a37:=Tryz.isAgg112
 z37:=Tryz.sizeOf112
 v37:=Tryz.zeroValue112
 t46:=Tryz.underlying161
 a46:=Tryz.isAgg161
 z46:=Tryz.sizeOf161
 v46:=Tryz.zeroValue161
 t51:=Tryz.underlying218
 a51:=Tryz.isAgg218
 z51:=Tryz.sizeOf218
 v51:=Tryz.zeroValue218
 t53:=Tryz.underlying160
 a53:=Tryz.isAgg160
 z53:=Tryz.sizeOf160
 v53:=Tryz.zeroValue160
 t171:=Tryz.underlying221
 a171:=Tryz.isAgg221
 z171:=Tryz.sizeOf221
 v171:=Tryz.zeroValue221
 t173:=Tryz.underlying223
 a173:=Tryz.isAgg223
 z173:=Tryz.sizeOf223
 v173:=Tryz.zeroValue223
 t212:=Tryz.underlying255
 a212:=Tryz.isAgg255
 z212:=Tryz.sizeOf255
 v212:=Tryz.zeroValue255
 t213:=Tryz.underlying256
 a213:=Tryz.isAgg256
 z213:=Tryz.sizeOf256
 t232:=Tryz.underlying280
 a232:=Tryz.isAgg280
 z232:=Tryz.sizeOf280
 v232:=Tryz.zeroValue280
 t233:=Tryz.underlying281
 a233:=Tryz.isAgg281
 z233:=Tryz.sizeOf281
 v233:=Tryz.zeroValue281
 g17:=by kernel_rfl
 g18:=by kernel_rfl
 g19:=by kernel_rfl
 i0:=by kernel_rfl
 i2:=by kernel_rfl
 i3:=by kernel_rfl
 i4:=by kernel_rfl
 i5:=by kernel_rfl
 i9:=by kernel_rfl
 i20:=by kernel_rfl
 i37:=by kernel_rfl
 i46:=by kernel_rfl
 i51:=by kernel_rfl
 i53:=by kernel_rfl
 i171:=by kernel_rfl
 i173:=by kernel_rfl
 i212:=by kernel_rfl
 i232:=by kernel_rfl
 i233:=by kernel_rfl
 m17:=by kernel_rfl
 m18:=by kernel_rfl
 m19:=by kernel_rfl}
open Go.RowKit Go.Sort Go.Lib in
theorem Tryz.strconv_Itoa (n:Int)(h0: -9223372036854775808≤n)(h1:n≤9223372036854775807)(w:World)(htab:Lib.TabIs Tryz.prog w "internal/strconv.uint64pow10" .u64 Lib.pow10Tab):
 Calls Tryz.prog 113 #[n] w fun e w'=>e= .returned (.string ⟨(Lib.itoa n).toArray⟩)∧∃ k os,w'=grow (w.drewN k) os:=Any.strconv_Itoa Tryz.laysM171 n h0 h1 w htab
def Tryz.laysC172_ren:Go.Shelf.Ren:=⟨fun|172=>203|244=>243|245=>244|247=>277|279=>278|280=>279|281=>280|282=>281|287=>298|316=>299|171=>113|205=>300|321=>304|322=>305|243=>155|246=>196|283=>238|284=>239|285=>240|286=>241|129=>225|317=>272|318=>273|319=>274|320=>275|337=>296|338=>297|n=>n,fun|9=>9|3=>3|75=>191|76=>192|4=>4|5=>5|167=>259|37=>112|0=>0|85=>260|2=>2|168=>262|53=>160|175=>273|46=>161|210=>276|127=>205|145=>285|143=>283|21=>21|171=>221|173=>223|212=>255|51=>218|20=>20|213=>256|232=>280|233=>281|80=>124|n=>n,fun|15=>1|16=>2|17=>0|18=>4|19=>5|n=>n⟩
theorem Tryz.laysC172:Go.Proofs.LaysC.n172 Tryz.prog Tryz.laysC172_ren:={
 mixed:=by kernel_rfl
 f129:=Tryz.func225.trans (congrArg some Kr)
 f171:=Tryz.func113.trans (congrArg some Kr)
 f172:=Tryz.func203.trans (congrArg some Kr)
 f205:=Tryz.func300.trans (congrArg some Kr)
 f243:=Tryz.func155.trans (congrArg some Kr)
 f244:=Tryz.func243.trans (congrArg some Kr)
 f245:=Tryz.func244.trans (congrArg some Kr)
 f246:=Tryz.func196.trans (congrArg some Kr)
 f247:=Tryz.func277.trans (congrArg some Kr)
 f279:=Tryz.func278.trans (congrArg some Kr)
 f280:=Tryz.func279.trans (congrArg some Kr)
 f281:=Tryz.func280.trans (congrArg some Kr)
 f282:=Tryz.func281.trans (congrArg some Kr)
 f283:=Tryz.func238.trans (congrArg some Kr)
 f284:=Tryz.func239.trans (congrArg some Kr)
 f285:=Tryz.func240.trans (congrArg some Kr)
 f286:=Tryz.func241.trans (congrArg some Kr)
 f287:=Tryz.func298.trans (congrArg some Kr)
 f316:=Tryz.func299.trans (congrArg some Kr)
 f317:=Tryz.func272.trans (congrArg some Kr)
 f318:=Tryz.func273.trans (congrArg some Kr)
 f319:=Tryz.func274.trans (congrArg some Kr)
 f320:=Tryz.func275.trans (congrArg some Kr)
 f321:=Tryz.func304.trans (congrArg some Kr)
 f322:=Tryz.func305.trans (congrArg some Kr)
 f337:=Tryz.func296.trans (congrArg some Kr)
 f338:=Tryz.func297.trans (congrArg some Kr)
 t0:=Tryz.underlying0
 a0:=Tryz.isAgg0
 z0:=Tryz.sizeOf0
 v0:=Tryz.zeroValue0
 t2:=Tryz.underlying2
 a2:=Tryz.isAgg2
 z2:=Tryz.sizeOf2
 v2:=Tryz.zeroValue2
 t3:=Tryz.underlying3
 a3:=Tryz.isAgg3
 z3:=Tryz.sizeOf3
 v3:=Tryz.zeroValue3
 t4:=Tryz.underlying4
 a4:=Tryz.isAgg4
 z4:=Tryz.sizeOf4
 v4:=Tryz.zeroValue4
 t5:=Tryz.underlying5
 a5:=Tryz.isAgg5
 z5:=Tryz.sizeOf5
 v5:=Tryz.zeroValue5
 t9:=Tryz.underlying9
 a9:=Tryz.isAgg9
 z9:=Tryz.sizeOf9
 v9:=Tryz.zeroValue9
 t20:=Tryz.underlying20
 a20:=Tryz.isAgg20
 z20:=Tryz.sizeOf20
 v20:=Tryz.zeroValue20
 t21:=Tryz.underlying21
 a21:=Tryz.isAgg21
 z21:=Tryz.sizeOf21
 v21:=Tryz.zeroValue21
 t37:=Tryz.underlying112
 a37:=Tryz.isAgg112
 z37:=Tryz.sizeOf112
 v37:=Tryz.zeroValue112
 t46:=Tryz.underlying161
 a46:=Tryz.isAgg161
 z46:=Tryz.sizeOf161
 v46:=Tryz.zeroValue161
 t51:=Tryz.underlying218
 a51:=Tryz.isAgg218
 z51:=Tryz.sizeOf218
 v51:=Tryz.zeroValue218
 t53:=Tryz.underlying160
 a53:=Tryz.isAgg160
 z53:=Tryz.sizeOf160
 v53:=Tryz.zeroValue160
 t75:=Tryz.underlying191
 a75:=Tryz.isAgg191
 z75:=Tryz.sizeOf191
 v75:=Tryz.zeroValue191
 t76:=Tryz.underlying192
 a76:=Tryz.isAgg192
 z76:=Tryz.sizeOf192
 v76:=Tryz.zeroValue192
 t85:=Tryz.underlying260
 a85:=Tryz.isAgg260
 z85:=Tryz.sizeOf260
 v85:=Tryz.zeroValue260
 t127:=Tryz.underlying205
 a127:=Tryz.isAgg205
 z127:=Tryz.sizeOf205
 v127:=Tryz.zeroValue205
 t143:=Tryz.underlying283
 a143:=Tryz.isAgg283
 z143:=Tryz.sizeOf283
 v143:=Tryz.zeroValue283
 t145:=Tryz.underlying285
 a145:=Tryz.isAgg285
 z145:=Tryz.sizeOf285
 v145:=Tryz.zeroValue285
 t167:=Tryz.underlying259
 a167:=Tryz.isAgg259
 z167:=Tryz.sizeOf259
 v167:=Tryz.zeroValue259
 t168:=Tryz.underlying262
 a168:=Tryz.isAgg262
 z168:=Tryz.sizeOf262
 v168:=Tryz.zeroValue262
 t171:=Tryz.underlying221
 a171:=Tryz.isAgg221
 z171:=Tryz.sizeOf221
 v171:=Tryz.zeroValue221
 t173:=Tryz.underlying223
 a173:=Tryz.isAgg223
 z173:=Tryz.sizeOf223
 v173:=Tryz.zeroValue223
 t175:=Tryz.underlying273
 a175:=Tryz.isAgg273
 z175:=Tryz.sizeOf273
 v175:=Tryz.zeroValue273
 t210:=Tryz.underlying276
 a210:=Tryz.isAgg276
 z210:=Tryz.sizeOf276
 v210:=Tryz.zeroValue276
 t212:=Tryz.underlying255
 a212:=Tryz.isAgg255
 z212:=Tryz.sizeOf255
 v212:=Tryz.zeroValue255
 t213:=Tryz.underlying256
 a213:=Tryz.isAgg256
 z213:=Tryz.sizeOf256
 t232:=Tryz.underlying280
 a232:=Tryz.isAgg280
 z232:=Tryz.sizeOf280
 v232:=Tryz.zeroValue280
 t233:=Tryz.underlying281
 a233:=Tryz.isAgg281
 z233:=Tryz.sizeOf281
 v233:=Tryz.zeroValue281
 g15:=by kernel_rfl
 g16:=by kernel_rfl
 g17:=by kernel_rfl
 g18:=by kernel_rfl
 g19:=by kernel_rfl
 t80:=Tryz.underlying124
 a80:=Tryz.isAgg124
 z80:=Tryz.sizeOf124
 v80:=Tryz.zeroValue124
 i0:=by kernel_rfl
 i2:=by kernel_rfl
 i3:=by kernel_rfl
 i4:=by kernel_rfl
 i5:=by kernel_rfl
 i9:=by kernel_rfl
 i20:=by kernel_rfl
 i21:=by kernel_rfl
 i37:=by kernel_rfl
 i46:=by kernel_rfl
 i51:=by kernel_rfl
 i53:=by kernel_rfl
 i75:=by kernel_rfl
 i76:=by kernel_rfl
 i80:=by kernel_rfl
 i85:=by kernel_rfl
 i127:=by kernel_rfl
 i143:=by kernel_rfl
 i145:=by kernel_rfl
 i167:=by kernel_rfl
 i168:=by kernel_rfl
 i171:=by kernel_rfl
 i173:=by kernel_rfl
 i175:=by kernel_rfl
 i210:=by kernel_rfl
 i212:=by kernel_rfl
 i232:=by kernel_rfl
 i233:=by kernel_rfl
 m15:=by kernel_rfl
 m16:=by kernel_rfl
 m17:=by kernel_rfl
 m18:=by kernel_rfl
 m19:=by kernel_rfl
 c0:=by kernel_rfl
 c2:=by kernel_rfl
 c3:=by kernel_rfl
 c4:=by kernel_rfl
 c5:=by kernel_rfl
 c9:=by kernel_rfl
 c20:=by kernel_rfl
 c21:=by kernel_rfl
 c37:=by kernel_rfl
 c46:=by kernel_rfl
 c51:=by kernel_rfl
 c53:=by kernel_rfl
 c75:=by kernel_rfl
 c76:=by kernel_rfl
 c80:=by kernel_rfl
 c85:=by kernel_rfl
 c127:=by kernel_rfl
 c143:=by kernel_rfl
 c145:=by kernel_rfl
 c167:=by kernel_rfl
 c168:=by kernel_rfl
 c171:=by kernel_rfl
 c173:=by kernel_rfl
 c175:=by kernel_rfl
 c210:=by kernel_rfl
 c212:=by kernel_rfl
 c213:=by kernel_rfl
 c232:=by kernel_rfl
 c233:=by kernel_rfl}
open Go.RowKit in
theorem Tryz.strconv_Atoi_ok (s:ByteArray)(hmax:s.size≤9223372036854775806)(v:Int)(h:Lib.atoiAll s.data.toList= .ok v)(w:World):
 Calls Tryz.prog 203 #[s] w fun e w'=>e= .returned (.tuple #[v,.nilIface])∧(w'=w∨∃ t,w'=Lib.bytesWorld w 5 t):=Any.strconv_Atoi_ok Tryz.laysC172 s hmax v h w
end Go.Proofs
namespace Go.Proofs.YtmfkhdhnbkambaaGreatDoor
open Go.RowKit
theorem joinB {a b c:World}(h:Below a.heap.size a b)(k:Below b.heap.size b c):Below a.heap.size a c:=h.trans (k.mono h.size)
theorem drewB (w:World)(n:Nat):Below w.heap.size w (w.drewN n):=⟨rfl,rfl,rfl,Nat.le_refl _,fun _ _=>rfl⟩
theorem pastAlloc {w w':World}{o:Obj}(hb:Below w.heap.size w w'):Below w.heap.size w (w'.alloc o):=hb.alloc hb.size o
theorem allocB (w:World)(o:Obj):Below w.heap.size w (w.alloc o):=pastAlloc (Below.refl _ _)
theorem heapLt {w:World}{g:Nat}{o:Obj}(h:w.heap[g]? =some o):g<w.heap.size:=(Array.getElem?_eq_some_iff.1 h).1
theorem blkNew {w w':World}{o:Obj}(hb:Below (w.alloc o).heap.size (w.alloc o) w'):w'.heap[w.heap.size]? =some o:=
 (hb.block _ (by simp)).trans (heap_alloc_new w _)
theorem blkOld {w w':World}{b:Nat}{o:Obj}(h:w.heap[b]? =some o)(hb:Below w.heap.size w w'):w'.heap[b]? =some o:=by
 rw[hb.block b (heapLt h)];exact h
theorem blkPast {w w':World}{b:Nat}{o o2:Obj}(h:w.heap[b]? =some o)(hb:Below (w.alloc o2).heap.size (w.alloc o2) w'):w'.heap[b]? =some o:=by
 have hlt:=heapLt h
 rw[hb.block b (by simp;omega),Below.heap_alloc w o2 b hlt];exact h
theorem blkSet {w:World}{b:Nat}(i:Nat){cs:Array Value}{T:TypeId}{fr:Nat×Nat}(h:w.heap[b]? =some (.cells cs T fr))(v:Value):(w.setCell ⟨b,i,none⟩ v).heap[b]? =some (.cells (cs.setIfInBounds i v) T fr):=by
 rw[setCell_eq_setRow w b i cs T fr v h]
 exact setRow_heap w b _ _ T _ h
theorem blkCell {w:World}{g:Nat}{cs:Array Value}{t:TypeId}{fr:Nat×Nat}(h:w.heap[g]? =some (.cells cs t fr))(i:Nat):w.cell? ⟨g,i,none⟩=cs[i]? :=by simp[World.cell?,h]
theorem blkFrozen {w:World}{g:Nat}{cs:Array Value}{t:TypeId}(h:w.heap[g]? =some (.cells cs t (0,0)))(i:Nat):w.frozen? ⟨g,i,none⟩=false:=by simp[World.frozen?,h]
theorem ownBelow {w w':World}{B:Nat}{e:TypeId}{size n:Nat}{v:Value}{xs:List Value}(h:w.ownsRow B e size v n xs)(hb:Below w.heap.size w w'):w'.ownsRow B e size v n xs:=by
 refine⟨h.1,?_⟩
 rcases h.2 with hz|⟨g,cap,cur,hv,hg,hh,r⟩
 ·exact .inl hz
 ·exact .inr ⟨g,cap,cur,hv,hg,blkOld hh hb,r⟩
theorem ownSet {w:World}{B:Nat}{e:TypeId}{size n:Nat}{v:Value}{xs:List Value}(h:w.ownsRow B e size v n xs)(a:Addr)(u:Value)(ha:a.block<B):(w.setCell a u).ownsRow B e size v n xs:=by
 refine⟨h.1,?_⟩
 rcases h.2 with hz|⟨g,cap,cur,hv,hg,hh,r⟩
 ·exact .inl hz
 ·exact .inr ⟨g,cap,cur,hv,hg,by rw[Below.heap_setCell _ _ _ _ (by omega)];exact hh,r⟩
theorem ownMono {w:World}{B B':Nat}{e:TypeId}{size n:Nat}{v:Value}{xs:List Value}(h:w.ownsRow B e size v n xs)(hb:B'≤B):w.ownsRow B' e size v n xs:=by
 refine⟨h.1,?_⟩
 rcases h.2 with h2|⟨g,cap,cur,hv,hg,h3⟩
 ·exact .inl h2
 ·exact .inr ⟨g,cap,cur,hv,Nat.le_trans hb hg,h3⟩
theorem ownLen {B n size:Nat}{e:TypeId}{v:Value}{xs:List Value}{w:World}(h:w.ownsRow B e size v n xs):∃ a c,v= .slice a n c:=by
 rcases h.2 with⟨rfl,h0⟩|⟨g',cap,cur,rfl,_⟩
 ·exact⟨_,_,by rw[h0]⟩
 ·exact⟨_,_,rfl⟩
theorem ownNil (w:World)(B:Nat)(e:TypeId)(size:Nat):w.ownsRow B e size (.slice none 0 0) 0 []:=World.ownsRow_nil w B e size
theorem ownEmpty (w:World)(e:TypeId)(size:Nat):(w.alloc (.cells #[] e)).ownsRow w.heap.size e size (.slice (some ⟨w.heap.size,0,none⟩) 0 0) 0 []:=World.ownsRow_made w #[] 0 (Nat.le_refl _) (Nat.zero_le _) (by simp)
def Reads (w:World)(A:Option Addr)(c n:Nat)(vs:List Value):Prop:=
 0<n→∃ b off,A=some ⟨b,off,none⟩∧n≤c∧b<w.heap.size∧∀ j v,vs[j]? =some v→w.cell? ⟨b,off+j,none⟩=some v
theorem Reads.none_ (w:World)(A:Option Addr)(c:Nat)(vs:List Value):Reads w A c 0 vs:=fun h=>absurd h (by omega)
theorem Reads.below {w w':World}{A:Option Addr}{c n:Nat}{vs:List Value}(h:Reads w A c n vs)(hb:Below w.heap.size w w'):Reads w' A c n vs:=fun h0=>by
 obtain⟨b,off,hA,hc,hlt,hcell⟩:=h h0
 refine⟨b,off,hA,hc,Nat.lt_of_lt_of_le hlt hb.size,fun j v hj=>?_⟩
 rw[hb.cell (p:=⟨b,off+j,none⟩) hlt];exact hcell j v hj
theorem Reads.alloc {w:World}{A:Option Addr}{c n:Nat}{vs:List Value}(h:Reads w A c n vs)(o:Obj):Reads (w.alloc o) A c n vs:=h.below (allocB w o)
theorem Reads.at_ {w:World}{A:Option Addr}{c n:Nat}{vs:List Value}(h:Reads w A c n vs)(h0:0<n):∃ b off,A=some ⟨b,off,none⟩∧n≤c∧b<w.heap.size∧∀ j v,vs[j]? =some v→w.cell? ⟨b,off+j,none⟩=some v:=h h0
theorem own_reads {w:World}{B:Nat}{e:TypeId}{size n c:Nat}{A:Option Addr}{vs:List Value}(h:w.ownsRow B e size (.slice A n c) n vs):Reads w A c n vs:=fun h0=>by
 rcases h.2 with⟨_,hz⟩|⟨g,cap,cur,hv,hg,hh,hn,hm,hs,ht⟩
 ·omega
 ·injection hv with h1 h2 h3
  subst h1 h3
  refine⟨g,0,rfl,hn,heapLt hh,fun j v hj=>?_⟩
  have h5:cur.toList[j]? =some v:=by
   rw[← ht]at hj
   rw[List.getElem?_take]at hj
   split at hj
   ·exact hj
   ·cases hj
  rw[blkCell hh,Nat.zero_add]
  simpa using h5
theorem reads_blk {w:World}{g:Nat}{cs:List Value}{T:TypeId}{n c:Nat}(h:w.heap[g]? =some (.cells cs.toArray T (0,0)))(hn:n≤c):Reads w (some ⟨g,0,none⟩) c n cs:=fun _=>
 ⟨g,0,rfl,hn,heapLt h,fun j v hj=>by rw[blkCell h,Nat.zero_add];simpa using hj⟩
theorem flat_at {α:Type}{enc:α→List Value}{k:Nat}(hk:∀ x,(enc x).length=k):∀ (l:List α) (j i:Nat) (hj:j<l.length),i<k→(l.flatMap enc)[j*k+i]? =(enc l[j])[i]? :=by
 intro l
 induction l with
 |nil=>intro j i h;simp at h
 |cons x l ih=>
  intro j i hj hi
  rw[List.flatMap_cons]
  cases j with
  |zero=>rw[List.getElem?_append_left (by rw[hk];omega)];simp
  |succ j=>
   rw[List.getElem?_append_right (by rw[hk,Nat.succ_mul];omega),hk,show(j+1)*k+i-k=j*k+i by rw[Nat.succ_mul];omega]
   exact ih j i (by simpa using hj) hi
theorem flat_len {α:Type}{enc:α→List Value}{k:Nat}(hk:∀ x,(enc x).length=k)(l:List α):(l.flatMap enc).length=l.length*k:=by
 induction l with
 |nil=>simp
 |cons x l ih=>rw[List.flatMap_cons,List.length_append,hk,ih,List.length_cons,Nat.succ_mul];omega
theorem read_at {α:Type}{enc:α→List Value}{k:Nat}(hk:∀ x,(enc x).length=k){w:World}{A:Option Addr}{c:Nat}{l:List α}(h:Reads w A c l.length (l.flatMap enc)){j:Nat}(hj:j<l.length):
 ∃ b off,A=some ⟨b,off,none⟩∧l.length≤c∧b<w.heap.size∧∀ i v,(enc l[j])[i]? =some v→w.cell? ⟨b,off+j*k+i,none⟩=some v:=by
 obtain⟨b,off,hA,hc,hlt,hcell⟩:=h (by omega)
 refine⟨b,off,hA,hc,hlt,fun i v hv=>?_⟩
 have hi:i<k:=by
  have:=(List.getElem?_eq_some_iff.1 hv).1
  rw[hk]at this;exact this
 rw[Nat.add_assoc]
 exact hcell _ _ (by rw[flat_at hk l j i hj hi];exact hv)
theorem run_app_nil {P:Program}{w:World}{t e ty:TypeId}{i0:TypeInfo}{B n size:Nat}{v:Value}{xs:List Value}(ht:P.underlying t=some (.slice e))(hi:P.info? e=some i0)(hown:w.ownsRow B e size v n xs)(c:Nat):
 (Builtin.append_ #[t,t] ty #[v,.slice none 0 c]).run P w= .ok v w:=by
 rcases hown.2 with⟨rfl,hz⟩|⟨g,cap,cur,rfl,_,_,hnc,_⟩
 ·simp[Builtin.append_,run_underlying ht,sizeOf,typeInfo,hi,Builtin.lenOf,Builtin.firstCells]
 ·simp[Builtin.append_,run_underlying ht,sizeOf,typeInfo,hi,Builtin.lenOf,Builtin.firstCells,hnc,storeCells]
theorem wp_appR {P:Program}{o:Oper}{a:Act}{K:Act→World→Prop}{Q:Exit→Act→World→Prop}(w:World)(s x:Operand)(t e:TypeId)(i0:TypeInfo)(z:Value)(size bytes:Nat)
 (ht:P.underlying t=some (.slice e)) (hi:P.info? e=some i0) (hz:i0.zero=some z) (hsz:i0.size=size) (hby:i0.bytes=bytes) (hzc:z.cells.size=size) (hpos:0<size)
 (ho:o.op= .call {callee:=.builtin .append,args:=#[s,x],argTypes:=#[t,t]})
 (B:Nat) (v:Value) (n:Nat) (xs:List Value) (hs:a.eval s=v) (hown:w.ownsRow B e size v n xs) (A:Option Addr) (m c:Nat) (ys:List Value) (hx:a.eval x= .slice A m c) (hy:Reads w A c m ys) (hyl:ys.length=m*size) (h1:∀ u∈ys,u.oneCell'=true)
 (hlen:n+m≤1048576) (hbs:bytes≤1024) (hbase:B≤w.heap.size)
 (h:∀ v' w',w'.ownsRow B e size v' (n+m) (xs++ys)→w.grownBy w' v.ownBlock→Below B w w'→K (a.put o.dst v') w'):o.wp P a w K Q:=by
 rcases A with _|ad
 ·have hn:m=0:=by
   rcases Nat.eq_zero_or_pos m with h0|h0
   ·exact h0
   ·obtain⟨b,off,e,_⟩:=hy h0
    cases e
  subst hn
  have hys:ys=[]:=List.eq_nil_of_length_eq_zero (by simpa using hyl)
  subst hys
  have hrun:=run_app_nil (ty:=o.type) ht hi hown c
  unfold Oper.wp execOp
  simp only[ho,resolve,invoke,builtin,Sem.run_bind,Sem.run_pure,Result.andThen_ok,List.map_toArray,List.map_cons,List.map_nil,hs,hx,hrun]
  exact h v w (by simpa using hown) (World.grownBy.refl w _) (Below.refl _ _)
 ·refine wp_append_own w s x _ ho B e i0 z size bytes ht hi hz hsz hby hzc hpos v n xs hs hown ad m c ys hx hyl ?_ h1 (by simp only[maxLen];omega) ?_ hbase ?_
  ·intro j u hu
   have hpos:0<m:=by
    have:=(List.getElem?_eq_some_iff.1 hu).1
    rcases Nat.eq_zero_or_pos m with h0|h0
    ·subst h0;rw[Nat.zero_mul]at hyl;omega
    ·exact h0
   obtain⟨b,off,e,_,_,hE⟩:=hy hpos
   injection e with e
   subst e
   rw[show(⟨b,off,none⟩:Addr).add j=⟨b,off+j,none⟩from Addr.add_mid b off j]
   exact hE j u hu
  ·have:(n+m)*bytes≤1048576*1024:=Nat.mul_le_mul hlen hbs
   omega
  ·intro v' w' h1 h2 _
   exact h v' w' h1 h2 ((Below.refl _ _).grown h2 hbase (fun k hk=>(hown.lt k hk).1))
theorem listWants {P:Program}{ops:Array Oper}{Q:Exit→Act→World→Prop}{a:Act}{w:World}{rest:List Oper}{o:Oper}(hw:Region.wanted o (yielded ops a.tmps)=true)(h:∀ K:Act→World→Prop,(∀ a w,wpList P ops Q rest a w→K a w)→o.wp P a w K Q):wpList P ops Q (o::rest) a w:=
 wpList_step fun K hK=>by rw[if_pos hw];exact h K hK
theorem run_store_whole {P:Program}(w:World)(b:Nat)(ty:TypeId)(cells cur:Array Value)(t:TypeId)(hg:w.heap[b]? =some (.cells cur t (0,0)))(hsz:cur.size=cells.size)(hi:(P.info? ty).map (·.size)=some cells.size)(h1:cells.all (·.oneCell')=true):
 (storeVar ty ⟨b,0,none⟩ (.agg cells)).run P w= .ok () (w.setRow b cells):=by
 have hst:=run_storeCells_at P b 0 t cells.toList 0 cur w hg (by simp[hsz]) (fun v hv=>(Array.all_eq_true_iff_forall_mem.1 h1) v (by simpa using hv))
 simp only[Nat.zero_add,List.take_zero,List.nil_append]at hst
 have e:(cells.toList++cur.toList.drop cells.toList.length).toArray=cells:=by
  rw[List.drop_of_length_le (by simp[hsz])];simp
 rw[e]at hst
 cases hq:P.info? ty with
 |none=>simp[hq]at hi
 |some i=>
  have hs:cells.size=i.size:=by simp[hq]at hi;omega
  simp[storeVar,sizeOf,typeInfo,hq,Value.cells,hs,hst]
theorem wp_store_whole {P:Program}{op:Oper}{a:Act}{w:World}{K:Act→World→Prop}{Q:Exit→Act→World→Prop}(ty:TypeId)(x y:Operand)(ho:op.op= .store ty x y)
 (b:Nat) (cells cur:Array Value) (t:TypeId) (hx:a.eval x= .pointer (some ⟨b,0,none⟩)) (hy:a.eval y= .agg cells) (hg:w.heap[b]? =some (.cells cur t (0,0))) (hsz:cur.size=cells.size)
 (hi:(P.info? ty).map (·.size)=some cells.size) (h1:cells.all (·.oneCell')=true) (h:K (a.put op.dst undef) (w.setRow b cells)):op.wp P a w K Q:=by
 unfold Oper.wp execOp
 simp only[ho,hx,hy,Instr.storeAt,Instr.sureAddr,Sem.run_bind,Sem.run_pure,Result.andThen_ok,run_store_whole w b ty cells cur t hg hsz hi h1]
 exact h
theorem sW {P:Program}{op:Oper}{a:Act}{w:World}{K:Act→World→Prop}{Q:Exit→Act→World→Prop}{ty:TypeId}{x y:Operand}{b:Nat}(cells:Array Value){cur:Array Value}{t:TypeId}(hg:w.heap[b]? =some (.cells cur t (0,0)))(h:K (a.put op.dst undef) (w.setRow b cells))(ho:op.op= .store ty x y:=by exact rfl)(hx:a.eval x= .pointer (some ⟨b,0,none⟩):=by with_unfolding_all exact rfl)(hy:a.eval y= .agg cells:=by with_unfolding_all exact rfl)(hs:cur.size=cells.size:=by kernel_rfl)(hi:(P.info? ty).map (·.size)=some cells.size:=by kernel_rfl)(h1:cells.all (·.oneCell')=true:=by kernel_rfl):op.wp P a w K Q:=wp_store_whole ty x y ho b cells cur t hx hy hg hs hi h1 h
theorem alloc_setRow (w:World)(cs cur:Array Value)(t:TypeId):(w.alloc (.cells cur t)).setRow w.heap.size cs=w.alloc (.cells cs t):=by
 have e:(w.heap.push (Obj.cells cur t)).modify w.heap.size (fun| .cells _ elem frozen=>.cells cs elem frozen|o=>o)=w.heap.push (.cells cs t):=by
  apply Array.ext_getElem?
  intro i
  rw[Array.getElem?_modify,Array.getElem?_push,Array.getElem?_push]
  by_cases h:i=w.heap.size
  ·subst h;simp
  ·rw[if_neg (fun e=>h e.symm),if_neg h,if_neg h]
 show({w with heap:=(w.heap.push (Obj.cells cur t)).modify w.heap.size (fun| .cells _ elem frozen=>.cells cs elem frozen|o=>o)}:World)={w with heap:=w.heap.push (.cells cs t)}
 rw[e]
theorem wpList_store_new {P:Program}{ops:Array Oper}{rest:List Oper}{op:Oper}{a:Act}{w:World}{Q:Exit→Act→World→Prop}(hgd:op.guard=none)(ty:TypeId)(x y:Operand)(ho:op.op= .store ty x y)
 (cells cur:Array Value) (t:TypeId) (hx:a.eval x= .pointer (some ⟨w.heap.size,0,none⟩)) (hy:a.eval y= .agg cells) (hsz:cur.size=cells.size)
 (hi:(P.info? ty).map (·.size)=some cells.size) (h1:cells.all (·.oneCell')=true)
 (h:wpList P ops Q rest (a.put op.dst undef) (w.alloc (.cells cells t))):wpList P ops Q (op::rest) a (w.alloc (.cells cur t)):=
 wpList_plain hgd fun _ hK=>wp_store_whole ty x y ho w.heap.size cells cur t hx hy (heap_alloc_new w _) hsz hi h1 (hK _ _ (by rw[alloc_setRow];exact h))
theorem sN {P:Program}{ops:Array Oper}{rest:List Oper}{op:Oper}{a:Act}{w:World}{Q:Exit→Act→World→Prop}{ty:TypeId}{x y:Operand}(cells:Array Value){cur:Array Value}{t:TypeId}(h:wpList P ops Q rest (a.put op.dst undef) (w.alloc (.cells cells t)))(ho:op.op= .store ty x y:=by exact rfl)(hx:a.eval x= .pointer (some ⟨w.heap.size,0,none⟩):=by with_unfolding_all exact rfl)(hy:a.eval y= .agg cells:=by with_unfolding_all exact rfl)(hg:op.guard=none:=by exact rfl)(hs:cur.size=cells.size:=by kernel_rfl)(hi:(P.info? ty).map (·.size)=some cells.size:=by kernel_rfl)(h1:cells.all (·.oneCell')=true:=by kernel_rfl):wpList P ops Q (op::rest) a (w.alloc (.cells cur t)):=wpList_store_new hg ty x y ho cells cur t hx hy hs hi h1 h
theorem results_cell {P:Program}{fn:Func}{p:Tmp}{ty:TypeId}(h:fn.results=#[.cell p ty])(tmps:Array Value)(w:World){ad:Addr}(hp:tmps.getD p undef= .pointer (some ad)){v:Value}(hl:(loadVar ty ad).run P w= .ok v w):
 (results fn tmps).run P w= .ok v w:=by
 simp only[results,h]
 have hp':tmps[p]?.getD undef= .pointer (some ad):=by simpa using hp
 simp[hp',asAddr,hl]
theorem load_whole {P:Program}{w:World}{b:Nat}{ty:TypeId}{cells:Array Value}{t:TypeId}{d:TypeDesc}(hg:w.heap[b]? =some (.cells cells t (0,0)))
 (hu:P.underlying ty=some d) (hd:d.isRow=true) (hi:(P.info? ty).map (·.size)=some cells.size):(loadVar ty ⟨b,0,none⟩).run P w= .ok (.agg cells) w:=by
 have h:=run_loadVar_mid (P:=P) w b 0 ty cells.toList d (fun j v hj=>by rw[blkCell hg,Nat.zero_add];simpa using hj) hu hd (by simpa using hi)
 simpa using h
theorem listLoad {P:Program}{ops:Array Oper}{rest:List Oper}{op:Oper}{a:Act}{w:World}{Q:Exit→Act→World→Prop}(hw:Region.wanted op (yielded ops a.tmps)=true)(ty:TypeId)(x:Operand)(ho:op.op= .load ty x)
 (b:Nat) (hx:a.eval x= .pointer (some ⟨b,0,none⟩)) (cells:Array Value) (t:TypeId) (hg:w.heap[b]? =some (.cells cells t (0,0))) (d:TypeDesc)
 (hu:P.underlying ty=some d) (hd:d.isRow=true) (hi:(P.info? ty).map (·.size)=some cells.size)
 (h:wpList P ops Q rest (a.put op.dst (.agg cells)) w):wpList P ops Q (op::rest) a w:=
 listWants hw fun K hK=>by
  refine wp_load_mid ty x ho b 0 hx cells.toList d (fun j v hj=>by rw[blkCell hg,Nat.zero_add];simpa using hj) hu hd (by simpa using hi) ?_
  simpa using hK _ _ h
theorem lL {P:Program}{ops:Array Oper}{rest:List Oper}{op:Oper}{a:Act}{w:World}{Q:Exit→Act→World→Prop}{ty:TypeId}{x:Operand}{b:Nat}{cells:Array Value}{t:TypeId}{d:TypeDesc}(hg:w.heap[b]? =some (.cells cells t (0,0)))(hu:P.underlying ty=some d)(h:wpList P ops Q rest (a.put op.dst (.agg cells)) w)(ho:op.op= .load ty x:=by exact rfl)(hx:a.eval x= .pointer (some ⟨b,0,none⟩):=by with_unfolding_all exact rfl)(hw:Region.wanted op (yielded ops a.tmps)=true:=by kernel_rfl)(hd:d.isRow=true:=by kernel_rfl)(hi:(P.info? ty).map (·.size)=some cells.size:=by kernel_rfl):wpList P ops Q (op::rest) a w:=listLoad hw ty x ho b hx cells t hg d hu hd hi h
section
variable {P : Program} {ops : Array Oper} {Q : Exit → Act → World → Prop} {md : Region.Mode} {S : World → Prop}
theorem tkW (i:Nat)(d:Option Nat){op:Op}{ty:TypeId}{pos:String}{aft:Array Edge}{g:Option (Nat×Bool)}{v:Value}{fuel:Nat}{listed:Array Bool}{a:Act}{w:World}(hi:ops[i]? =some ⟨d,op,ty,pos,aft,g⟩)
 (hy:∀ w,S w→(execOp a.eval ⟨d,op,ty,pos,aft,g⟩).run P w= .ok (.value v) w) (h:wpAnyH P md ops Q S fuel (listed.setIfInBounds i true) (a.put d v) w)
 (hw:Region.wanted ⟨d,op,ty,pos,aft,g⟩ (yielded ops a.tmps)=true:=by rfl) (hS:S w:=by assumption) (hs:Region.noSelect ops=true:=by kernel_rfl) (hf:Region.free md ops listed i=true:=by kernel_rfl) (hr:(Region.ready md ops listed).contains i=true:=by kernel_rfl) (hQ:∀ c a w,Q (.panic c) (a.put d v) w→Q (.panic c) a w:=by exact fun _ _ _ h=>h):
 wpAnyH P md ops Q S (fuel+1) listed a w:=wpAnyH_take hi hs hf hr hQ (.inl ⟨hw,hy⟩) hS h
theorem tkO (i:Nat)(d:Option Nat){op:Op}{ty:TypeId}{pos:String}{aft:Array Edge}{g:Option (Nat×Bool)}{fuel:Nat}{listed:Array Bool}{a:Act}{w:World}(hi:ops[i]? =some ⟨d,op,ty,pos,aft,g⟩)
 (h:wpAnyH P md ops Q S fuel (listed.setIfInBounds i true) (a.put d undef) w)
 (hw:Region.wanted ⟨d,op,ty,pos,aft,g⟩ (yielded ops a.tmps)=false:=by rfl) (hS:S w:=by assumption) (hs:Region.noSelect ops=true:=by kernel_rfl) (hf:Region.free md ops listed i=true:=by kernel_rfl) (hr:(Region.ready md ops listed).contains i=true:=by kernel_rfl) (hQ:∀ c a w,Q (.panic c) (a.put d undef) w→Q (.panic c) a w:=by exact fun _ _ _ h=>h):
 wpAnyH P md ops Q S (fuel+1) listed a w:=wpAnyH_take hi hs hf hr hQ (.inr ⟨hw,rfl⟩) hS h
theorem tkV (i:Nat)(d:Option Nat){op:Op}{ty:TypeId}{pos:String}{aft:Array Edge}{g:Option (Nat×Bool)}{v:Value}{fuel:Nat}{listed:Array Bool}{a:Act}{w:World}(hi:ops[i]? =some ⟨d,op,ty,pos,aft,g⟩)
 (hy:YieldsIf P ops S ⟨d,op,ty,pos,aft,g⟩ v a) (h:wpAnyH P md ops Q S fuel (listed.setIfInBounds i true) (a.put d v) w)
 (hS:S w:=by assumption) (hs:Region.noSelect ops=true:=by kernel_rfl) (hf:Region.free md ops listed i=true:=by kernel_rfl) (hr:(Region.ready md ops listed).contains i=true:=by kernel_rfl) (hQ:∀ c a w,Q (.panic c) (a.put d v) w→Q (.panic c) a w:=by exact fun _ _ _ h=>h):
 wpAnyH P md ops Q S (fuel+1) listed a w:=wpAnyH_take hi hs hf hr hQ hy hS h
theorem rdH (i:Nat)(d:Option Nat){op:Op}{ty:TypeId}{pos:String}{aft:Array Edge}{g:Option (Nat×Bool)}{fuel:Nat}{listed:Array Bool}{a:Act}{w:World}(hi:ops[i]? =some ⟨d,op,ty,pos,aft,g⟩)
 (h:∀ K':Act→World→Prop,Shut (∀ a w,S w→(S w→wpAnyH P md ops Q S fuel (listed.setIfInBounds i true) a w)→K' a w)→if Region.wanted ⟨d,op,ty,pos,aft,g⟩ (yielded ops a.tmps)=true then Oper.wp P ⟨d,op,ty,pos,aft,g⟩ a w K' Q else K' (a.put d undef) w)
 (hr:Region.ready md ops listed=[i]:=by kernel_rfl):wpAnyH P md ops Q S (fuel+1) listed a w:=
 wpAnyH_ready hr (by simp) (AllReadyH.cons hi h AllReadyH.nil)
end
abbrev rcA (a b c d e f g h i:Int)(j k:ByteArray)(l m:Int)(n:ByteArray)(o p:Int)(q r:Value):Array Value:=#[a,b,c,d,e,f,g,h,i,j,k,l,m,n,o,p,q,r]
theorem pS:(∀ (l:List Value) (i:Nat) (v:Value),l.toArray.setIfInBounds i v=(l.set i v).toArray)∧(∀ (a:Value) (l:List Value) (v:Value),(a::l).set 0 v=v::l)∧∀ (a:Value) (l:List Value) (i:Nat) (v:Value),(a::l).set (i+1) v=a::l.set i v:=⟨fun _ _ _=>List.setIfInBounds_toArray ..,fun _ _ _=>rfl,fun _ _ _ _=>rfl⟩
theorem wantedIf {c:Prop}[Decidable c]{p q:Prop}(hc:c)(h:p):if c then p else q:=by rw[if_pos hc];exact h
theorem wp_push {P:Program}{o:Oper}{a:Act}{K:Act→World→Prop}{Q:Exit→Act→World→Prop}(w:World)(s x:Operand)(t e:TypeId){z:Value}{size bytes:Nat}
 (ht:P.underlying t=some (.slice e)) (hi:(P.info? e).map (fun i=>(i.zero,i.size,i.bytes))=some (some z,size,bytes)) (hzc:z.cells.size=size) (hpos:0<size) (hby:bytes≤1024)
 (ho:o.op= .call {callee:=.builtin .append,args:=#[s,x],argTypes:=#[t,t]})
 (B:Nat) (v:Value) (n:Nat) (xs:List Value) (hs:a.eval s=v) (hown:w.ownsRow B e size v n xs) (g:Nat) (cs:List Value) (T:TypeId) (hx:a.eval x= .slice (some ⟨g,0,none⟩) 1 1) (hg:w.heap[g]? =some (.cells cs.toArray T (0,0)))
 (hcl:cs.length=size) (h1:∀ u∈cs,u.oneCell'=true) (hlen:n+1≤1048576) (hbase:B≤w.heap.size)
 (h:∀ v' w',w'.ownsRow B e size v' (n+1) (xs++cs)→w.grownBy w' v.ownBlock→Below B w w'→K (a.put o.dst v') w'):o.wp P a w K Q:=by
 obtain⟨i0,hi,hz0,hz1,hz2⟩:=info_parts hi
 exact wp_appR w s x t e i0 _ size bytes ht hi hz0 hz1 hz2 hzc hpos ho B v n xs hs hown _ 1 1 cs hx (reads_blk (cs:=cs) hg (Nat.le_refl _)) (by omega) h1 hlen hby hbase h
theorem wpList_push {P:Program}{ops:Array Oper}{rest:List Oper}{o:Oper}{a:Act}{Q:Exit→Act→World→Prop}{w:World}(hw:Region.wanted o (yielded ops a.tmps)=true)(s x:Operand)(t e:TypeId){z:Value}{size bytes:Nat}
 (ht:P.underlying t=some (.slice e)) (hi:(P.info? e).map (fun i=>(i.zero,i.size,i.bytes))=some (some z,size,bytes)) (hzc:z.cells.size=size) (hpos:0<size) (hby:bytes≤1024)
 (ho:o.op= .call {callee:=.builtin .append,args:=#[s,x],argTypes:=#[t,t]})
 (B:Nat) (v:Value) (n:Nat) (xs:List Value) (hs:a.eval s=v) (hown:w.ownsRow B e size v n xs) (g:Nat) (cs:List Value) (T:TypeId) (hx:a.eval x= .slice (some ⟨g,0,none⟩) 1 1) (hg:w.heap[g]? =some (.cells cs.toArray T (0,0)))
 (hcl:cs.length=size) (h1:∀ u∈cs,u.oneCell'=true) (hlen:n+1≤1048576) (hbase:B≤w.heap.size)
 (h:∀ v' w',w'.ownsRow B e size v' (n+1) (xs++cs)→w.grownBy w' v.ownBlock→Below B w w'→wpList P ops Q rest (a.put o.dst v') w'):wpList P ops Q (o::rest) a w:=
 listWants hw fun _ hK=>wp_push w s x t e ht hi hzc hpos hby ho B v n xs hs hown g cs T hx hg hcl h1 hlen hbase (fun v' w' a b c=>hK _ _ (h v' w' a b c))
abbrev OwnL {α:Type}(enc:α→List Value)(k:Nat)(e:TypeId)(B:Nat)(w:World)(v:Value)(l:List α):Prop:=w.ownsRow B e k v l.length (l.flatMap enc)
theorem OwnL.push {α:Type}{enc:α→List Value}{k:Nat}{e:TypeId}{B:Nat}{w:World}{v:Value}{l:List α}{x:α}(h:w.ownsRow B e k v (l.length+1) (l.flatMap enc++enc x)):OwnL enc k e B w v (l++[x]):=by
 unfold OwnL
 rw[List.length_append,List.flatMap_append]
 simpa using h
theorem heap_setRow_other (w:World)(b:Nat)(cs:Array Value)(k:Nat)(h:k≠b):(w.setRow b cs).heap[k]? =w.heap[k]? :=by
 show(w.heap.modify b _)[k]? =_
 rw[Array.getElem?_modify,if_neg (fun e=>h e.symm)]
structure BxL (B:Nat) (w:World) (l:List (Array Value×TypeId)) (u:World):Prop where
 get:∀ i p,l[i]? =some p→u.heap[B+i]? =some (.cells p.1 p.2 (0,0))
 low:w.heap.size≤B
 below:Below w.heap.size w u
theorem BxL.get0 {B:Nat}{w u:World}{l:List (Array Value×TypeId)}{c0:Array Value}{T0:TypeId}(h:BxL B w ((c0,T0)::l) u):u.heap[B]? =some (.cells c0 T0 (0,0)):=h.get 0 _ rfl
theorem BxL.get1 {B:Nat}{w u:World}{l:List (Array Value×TypeId)}{p:Array Value×TypeId}{c1:Array Value}{T1:TypeId}(h:BxL B w (p::(c1,T1)::l) u):u.heap[B+1]? =some (.cells c1 T1 (0,0)):=h.get 1 _ rfl
theorem BxL.get2 {B:Nat}{w u:World}{l:List (Array Value×TypeId)}{p q:Array Value×TypeId}{c2:Array Value}{T2:TypeId}(h:BxL B w (p::q::(c2,T2)::l) u):u.heap[B+2]? =some (.cells c2 T2 (0,0)):=h.get 2 _ rfl
theorem BxL.nil {w u:World}(h:Below w.heap.size w u):BxL u.heap.size w [] u:=⟨fun i p h=>(by simp at h),h.size,h⟩
theorem BxL.lt {B:Nat}{w u:World}{l:List (Array Value×TypeId)}(h:BxL B w l u){i:Nat}(hi:i<l.length):B+i<u.heap.size:=heapLt (h.get i _ (List.getElem?_eq_getElem hi))
theorem BxL.new {B:Nat}{w u:World}{l:List (Array Value×TypeId)}(h:BxL B w l u)(hs:u.heap.size=B+l.length)(cs:Array Value)(T:TypeId):BxL B w (l++[(cs,T)]) (u.alloc (.cells cs T)):=by
 refine⟨fun i p hp=>?_,h.low,pastAlloc h.below⟩
 by_cases hi:i<l.length
 ·rw[List.getElem?_append_left hi]at hp
  exact blkOld (h.get i p hp) (allocB _ _)
 ·rw[List.getElem?_append_right (by omega)]at hp
  have h0:i-l.length=0:=by
   have:=(List.getElem?_eq_some_iff.1 hp).1
   simpa using this
  rw[h0]at hp
  simp only[List.getElem?_cons_zero,Option.some.injEq]at hp
  subst hp
  rw[show B+i=u.heap.size by omega]
  exact heap_alloc_new u _
theorem nW1 (w:World)(c0:Array Value)(t0:TypeId):Hid (BxL w.heap.size w [(c0,t0)] (w.alloc (.cells c0 t0))):=Hq ((BxL.nil (Below.refl w.heap.size w)).new (by simp) c0 t0)
theorem nW2 (w:World)(c0:Array Value)(t0:TypeId)(c1:Array Value)(t1:TypeId):Hid (BxL w.heap.size w [(c0,t0),(c1,t1)] ((w.alloc (.cells c0 t0)).alloc (.cells c1 t1))):=Hq (((BxL.nil (Below.refl w.heap.size w)).new (by simp) c0 t0).new (by simp) c1 t1)
theorem nW3 (w:World)(c0:Array Value)(t0:TypeId)(c1:Array Value)(t1:TypeId)(c2:Array Value)(t2:TypeId):Hid (BxL w.heap.size w [(c0,t0),(c1,t1),(c2,t2)] (((w.alloc (.cells c0 t0)).alloc (.cells c1 t1)).alloc (.cells c2 t2))):=Hq ((((BxL.nil (Below.refl w.heap.size w)).new (by simp) c0 t0).new (by simp) c1 t1).new (by simp) c2 t2)
theorem nW4 (w:World)(c0:Array Value)(t0:TypeId)(c1:Array Value)(t1:TypeId)(c2:Array Value)(t2:TypeId)(c3:Array Value)(t3:TypeId):Hid (BxL w.heap.size w [(c0,t0),(c1,t1),(c2,t2),(c3,t3)] ((((w.alloc (.cells c0 t0)).alloc (.cells c1 t1)).alloc (.cells c2 t2)).alloc (.cells c3 t3))):=Hq (((((BxL.nil (Below.refl w.heap.size w)).new (by simp) c0 t0).new (by simp) c1 t1).new (by simp) c2 t2).new (by simp) c3 t3)
theorem nW5 (w:World)(c0:Array Value)(t0:TypeId)(c1:Array Value)(t1:TypeId)(c2:Array Value)(t2:TypeId)(c3:Array Value)(t3:TypeId)(c4:Array Value)(t4:TypeId):Hid (BxL w.heap.size w [(c0,t0),(c1,t1),(c2,t2),(c3,t3),(c4,t4)] (((((w.alloc (.cells c0 t0)).alloc (.cells c1 t1)).alloc (.cells c2 t2)).alloc (.cells c3 t3)).alloc (.cells c4 t4))):=Hq ((((((BxL.nil (Below.refl w.heap.size w)).new (by simp) c0 t0).new (by simp) c1 t1).new (by simp) c2 t2).new (by simp) c3 t3).new (by simp) c4 t4)
theorem nW6 (w:World)(c0:Array Value)(t0:TypeId)(c1:Array Value)(t1:TypeId)(c2:Array Value)(t2:TypeId)(c3:Array Value)(t3:TypeId)(c4:Array Value)(t4:TypeId)(c5:Array Value)(t5:TypeId):Hid (BxL w.heap.size w [(c0,t0),(c1,t1),(c2,t2),(c3,t3),(c4,t4),(c5,t5)] ((((((w.alloc (.cells c0 t0)).alloc (.cells c1 t1)).alloc (.cells c2 t2)).alloc (.cells c3 t3)).alloc (.cells c4 t4)).alloc (.cells c5 t5))):=Hq (((((((BxL.nil (Below.refl w.heap.size w)).new (by simp) c0 t0).new (by simp) c1 t1).new (by simp) c2 t2).new (by simp) c3 t3).new (by simp) c4 t4).new (by simp) c5 t5)
theorem BxL.g3 {B:Nat}{w u:World}{l:List (Array Value×TypeId)}{p q r:Array Value×TypeId}{c3:Array Value}{T3:TypeId}(h:BxL B w (p::q::r::(c3,T3)::l) u):u.heap[B+3]? =some (.cells c3 T3 (0,0)):=h.get 3 _ rfl
theorem BxL.g4 {B:Nat}{w u:World}{l:List (Array Value×TypeId)}{p q r s:Array Value×TypeId}{c4:Array Value}{T4:TypeId}(h:BxL B w (p::q::r::s::(c4,T4)::l) u):u.heap[B+4]? =some (.cells c4 T4 (0,0)):=h.get 4 _ rfl
theorem exW {B:Nat}{w u:World}{l:List (Array Value×TypeId)}(_:Hid (BxL B w l u)):∃ W,W=u:=⟨_,rfl⟩
theorem BxL.step {B:Nat}{w u v:World}{l:List (Array Value×TypeId)}(h:BxL B w l u)(hb:Below u.heap.size u v):BxL B w l v:=
 ⟨fun i p hp=>blkOld (h.get i p hp) hb,h.low,joinB h.below hb⟩
theorem BxL.under {B:Nat}{w u v:World}{l:List (Array Value×TypeId)}(h:BxL B w l u){M:Nat}(hM:B+l.length≤M)(hb:Below M u v):BxL B w l v:=by
 have hl:=h.low
 refine⟨fun i p hp=>?_,h.low,h.below.trans (hb.mono (by omega))⟩
 have hi:=(List.getElem?_eq_some_iff.1 hp).1
 exact(hb.block _ (by omega)).trans (h.get i p hp)
theorem BxL.drew {B:Nat}{w u:World}{l:List (Array Value×TypeId)}(h:BxL B w l u):BxL B w l u.drew:=h.step (Below.refl _ _).drew
theorem BxL.set {B:Nat}{w u:World}{l:List (Array Value×TypeId)}(h:BxL B w l u)(i j:Nat)(v:Value)(p:Array Value×TypeId)(hi:l[i]? =some p):BxL B w (l.set i (p.1.setIfInBounds j v,p.2)) (u.setCell ⟨B+i,j,none⟩ v):=by
 have hil:=(List.getElem?_eq_some_iff.1 hi).1
 refine⟨fun k q hq=>?_,h.low,h.below.setCell (by have:=h.low;show _≤B+i;omega) v⟩
 by_cases hk:i=k
 ·subst hk
  rw[List.getElem?_set_self hil]at hq
  injection hq with hq
  subst hq
  exact blkSet j (h.get i p hi) v
 ·rw[List.getElem?_set_ne hk]at hq
  rw[Below.heap_setCell _ _ _ _ (by show B+k≠B+i;omega)]
  exact h.get k q hq
theorem BxL.row {B:Nat}{w u:World}{l:List (Array Value×TypeId)}(h:BxL B w l u)(i:Nat)(cs:Array Value)(p:Array Value×TypeId)(hi:l[i]? =some p):BxL B w (l.set i (cs,p.2)) (u.setRow (B+i) cs):=by
 have hil:=(List.getElem?_eq_some_iff.1 hi).1
 have hl:=h.low
 refine⟨fun k q hq=>?_,h.low,⟨h.below.os,h.below.tape,h.below.output,by show _≤(u.heap.modify _ _).size;have:=h.below.size;simpa using this,fun k hk=>(heap_setRow_other _ _ _ _ (by omega)).trans (h.below.block k hk)⟩⟩
 by_cases hk:i=k
 ·subst hk
  rw[List.getElem?_set_self hil]at hq
  injection hq with hq
  subst hq
  exact setRow_heap _ _ _ _ _ _ (h.get i p hi)
 ·rw[List.getElem?_set_ne hk]at hq
  rw[heap_setRow_other _ _ _ _ (by omega)]
  exact h.get k q hq
theorem Reads.off {w:World}{A:Option Addr}{c n:Nat}{vs:List Value}(h:Reads w A c n vs)(b j:Nat)(v:Value)(ha:0<n→∀ ad,A=some ad→ad.block≠b):Reads (w.setCell ⟨b,j,none⟩ v) A c n vs:=fun h0=>by
 obtain⟨g,off,e,hc,hlt,hcell⟩:=h h0
 have hne:=ha h0 _ e
 refine⟨g,off,e,hc,by simpa[World.setCell]using hlt,fun k u hk=>?_⟩
 have:=hcell k u hk
 unfold World.cell? at this ⊢
 rw[Below.heap_setCell _ _ _ _ hne]
 exact this
theorem Reads.offRow {w:World}{A:Option Addr}{c n:Nat}{vs:List Value}(h:Reads w A c n vs)(b:Nat)(cs:Array Value)(ha:0<n→∀ ad,A=some ad→ad.block≠b):Reads (w.setRow b cs) A c n vs:=fun h0=>by
 obtain⟨g,off,e,hc,hlt,hcell⟩:=h h0
 have hne:=ha h0 _ e
 refine⟨g,off,e,hc,by show _<(w.heap.modify _ _).size;simpa using hlt,fun k u hk=>?_⟩
 have:=hcell k u hk
 unfold World.cell? at this ⊢
 rw[heap_setRow_other _ _ _ _ hne]
 exact this
theorem Reads.old {w:World}{A:Option Addr}{c n:Nat}{vs:List Value}(h:Reads w A c n vs)(h0:0<n):∀ ad,A=some ad→ad.block<w.heap.size:=fun ad e=>by
 obtain⟨g,off,e2,_,hlt,_⟩:=h h0
 rw[e2]at e
 injection e with e
 rw[← e];exact hlt
structure Apart (lo hi:Nat) (w v:World):Prop where
 size:w.heap.size≤v.heap.size
 block:∀ k,k<w.heap.size→(k<lo∨hi≤k)→v.heap[k]? =w.heap[k]?
theorem Apart.refl (lo hi:Nat)(w:World):Apart lo hi w w:=⟨Nat.le_refl _,fun _ _ _=>rfl⟩
theorem Apart.trans {lo hi:Nat}{u v w:World}(h:Apart lo hi u v)(k:Apart lo hi v w):Apart lo hi u w:=⟨Nat.le_trans h.size k.size,fun i h1 h2=>(k.block i (Nat.lt_of_lt_of_le h1 h.size) h2).trans (h.block i h1 h2)⟩
theorem Apart.below {lo hi:Nat}{w v:World}(hb:Below w.heap.size w v):Apart lo hi w v:=⟨hb.size,fun k h1 _=>hb.block k h1⟩
theorem Apart.cell {lo hi:Nat}{u v:World}(h:Apart lo hi u v)(b j:Nat)(x:Value)(h1:lo≤b)(h2:b<hi):Apart lo hi u (v.setCell ⟨b,j,none⟩ x):=
 h.trans ⟨by simp[World.setCell],fun k _ hk=>Below.heap_setCell _ _ _ _ (by show k≠b;omega)⟩
theorem Apart.row {lo hi:Nat}{u v:World}(h:Apart lo hi u v)(b:Nat)(cs:Array Value)(h1:lo≤b)(h2:b<hi):Apart lo hi u (v.setRow b cs):=
 h.trans ⟨by show _≤(v.heap.modify _ _).size;simp,fun k _ hk=>heap_setRow_other _ _ _ _ (by omega)⟩
theorem Apart.drew {lo hi:Nat}{u v:World}(h:Apart lo hi u v):Apart lo hi u v.drew:=h.trans (Apart.below (Below.refl _ _).drew)
theorem Reads.apart {lo hi:Nat}{w v:World}{A:Option Addr}{c n:Nat}{vs:List Value}(h:Reads w A c n vs)(ha:Apart lo hi w v)(hA:0<n→∀ ad,A=some ad→ad.block<lo∨hi≤ad.block):Reads v A c n vs:=fun h0=>by
 obtain⟨g,off,e,hc,hlt,hcell⟩:=h h0
 have hne:=hA h0 _ e
 refine⟨g,off,e,hc,Nat.lt_of_lt_of_le hlt ha.size,fun k u hk=>?_⟩
 have:=hcell k u hk
 unfold World.cell? at this ⊢
 rw[ha.block _ hlt hne]
 exact this
theorem rowApart {lo hi:Nat}{w w':World}{B:Nat}{e:TypeId}{size n:Nat}{v:Value}{xs:List Value}(h:w.ownsRow B e size v n xs)(hb:hi≤B)(ha:Apart lo hi w w'):w'.ownsRow B e size v n xs:=by
 refine⟨h.1,?_⟩
 rcases h.2 with hz|⟨g,cap,cur,hv,hg,hh,r⟩
 ·exact .inl hz
 ·exact .inr ⟨g,cap,cur,hv,hg,(ha.block g (heapLt hh) (.inr (by omega))).trans hh,r⟩
theorem ownOther {w:World}{B g n size:Nat}{e t:TypeId}{v:Value}{xs:List Value}{cur:Array Value}{fr:Nat×Nat}(h:w.ownsRow B e size v n xs)(hg:w.heap[g]? =some (.cells cur t fr))(hne:e≠t)(cs:Array Value):(w.setRow g cs).ownsRow B e size v n xs:=by
 refine⟨h.1,?_⟩
 rcases h.2 with hz|⟨g',cap,cur',hv,hgB,hh,r⟩
 ·exact .inl hz
 ·refine .inr ⟨g',cap,cur',hv,hgB,?_,r⟩
  rw[heap_setRow_other _ _ _ _ (fun e1=>?_)]
  ·exact hh
  ·subst e1
   rw[hh]at hg
   injection hg with hg
   injection hg with _ ht
   exact hne ht
theorem ownCell {w:World}{B g b n size c:Nat}{e t:TypeId}{xs:List Value}{cur:Array Value}{fr:Nat×Nat}(h:w.ownsRow B e size (.slice (some ⟨b,0,none⟩) n c) n xs)(hg:w.heap[g]? =some (.cells cur t fr))(hne:e≠t):b≠g:=by
 rcases h.2 with⟨hv,_⟩|⟨g',cap,cur',hv,_,hh,_⟩
 ·cases hv
 ·injection hv with h1
  injection h1 with h1
  injection h1 with h1
  subst h1
  intro e1
  subst e1
  rw[hh]at hg
  injection hg with hg
  injection hg with _ ht
  exact hne ht
theorem cellOther {w:World}{g b k:Nat}{x:Value}{o:Obj}{cs:Array Value}(h:w.cell? ⟨b,k,none⟩=some x)(_hg:w.heap[g]? =some o)(hne:b≠g):(w.setRow g cs).cell? ⟨b,k,none⟩=some x:=by
 unfold World.cell? at h ⊢
 rw[heap_setRow_other _ _ _ _ hne]
 exact h
theorem ownAt {w:World}{B n:Nat}{e:TypeId}{v:Value}{xs:List Value}(h:w.ownsRow B e 1 v n xs){k:Nat}(hk:k<n):∃ g cap,v= .slice (some ⟨g,0,none⟩) n cap∧B≤g∧g<w.heap.size∧n≤cap∧w.cell? ⟨g,k,none⟩=xs[k]?∧w.frozen? ⟨g,k,none⟩=false∧
 ∀ u,(w.setCell ⟨g,k,none⟩ u).ownsRow B e 1 v n (xs.set k u):=by
 rcases h.2 with⟨_,hz⟩|⟨g,cap,cur,hv,hg,hh,hn,hm,hs,ht⟩
 ·omega
 ·refine⟨g,cap,hv,hg,heapLt hh,hn,?_,blkFrozen hh k,fun u=>⟨by rw[List.length_set];exact h.1,.inr ⟨g,cap,cur.setIfInBounds k u,hv,hg,blkSet k hh u,hn,hm,by simpa using hs,?_⟩⟩⟩
  ·rw[blkCell hh,← ht,List.getElem?_take,if_pos (by omega)]
   simp
  ·rw[Array.toList_setIfInBounds,List.take_set,ht]
theorem ownRowOff {w:World}{B:Nat}{e:TypeId}{size n:Nat}{v:Value}{xs:List Value}(h:w.ownsRow B e size v n xs)(b:Nat)(cs:Array Value)(hb:b<B):(w.setRow b cs).ownsRow B e size v n xs:=by
 refine⟨h.1,?_⟩
 rcases h.2 with hz|⟨g,cap,cur,hv,hg,hh,r⟩
 ·exact .inl hz
 ·exact .inr ⟨g,cap,cur,hv,hg,by rw[heap_setRow_other _ _ _ _ (by omega)];exact hh,r⟩
def NewT (n:Nat)(w:World)(T:TypeId)(A:Option Addr):Prop:=∀ ad,A=some ad→n≤ad.block∧∃ cs fr,w.heap[ad.block]? =some (.cells cs T fr)
theorem NewT.mono {n m:Nat}{w:World}{T:TypeId}{A:Option Addr}(h:NewT n w T A)(hm:m≤n):NewT m w T A:=fun ad e=>⟨Nat.le_trans hm (h ad e).1,(h ad e).2⟩
theorem NewT.below {n:Nat}{w w':World}{T:TypeId}{A:Option Addr}(h:NewT n w T A)(hb:Below w.heap.size w w'):NewT n w' T A:=fun ad e=>by
 obtain⟨h1,cs,fr,h2⟩:=h ad e
 exact⟨h1,cs,fr,blkOld h2 hb⟩
theorem NewT.own {w:World}{B:Nat}{T:TypeId}{size n c:Nat}{A:Option Addr}{xs:List Value}(h:w.ownsRow B T size (.slice A n c) n xs):NewT B w T A:=by
 intro ad hA
 rcases h.2 with⟨hv,_⟩|⟨g,cap,cur,hv,hg,hh,_⟩
 ·injection hv with h1;rw[h1]at hA;cases hA
 ·injection hv with h1;rw[h1]at hA;injection hA with hA;rw[← hA];exact⟨hg,cur,_,hh⟩
theorem NewT.row {n:Nat}{w:World}{T:TypeId}{A:Option Addr}(h:NewT n w T A)(b:Nat)(cs:Array Value):NewT n (w.setRow b cs) T A:=fun ad e=>by
 obtain⟨h1,cs0,fr,h2⟩:=h ad e
 refine⟨h1,?_⟩
 by_cases hb:ad.block=b
 ·subst hb;exact⟨cs,fr,setRow_heap _ _ _ _ _ _ h2⟩
 ·exact⟨cs0,fr,(heap_setRow_other _ _ _ _ hb).trans h2⟩
theorem NewT.set {n:Nat}{w:World}{T:TypeId}{A:Option Addr}(h:NewT n w T A)(b j:Nat)(v:Value):NewT n (w.setCell ⟨b,j,none⟩ v) T A:=fun ad e=>by
 obtain⟨h1,cs0,fr,h2⟩:=h ad e
 refine⟨h1,?_⟩
 by_cases hb:ad.block=b
 ·subst hb;exact⟨_,fr,blkSet j h2 v⟩
 ·exact⟨cs0,fr,(Below.heap_setCell _ _ _ _ hb).trans h2⟩
theorem NewT.apart {n lo hi:Nat}{w v:World}{T:TypeId}{A:Option Addr}(h:NewT n w T A)(ha:Apart lo hi w v)(hn:hi≤n):NewT n v T A:=fun ad e=>by
 obtain⟨h1,cs0,fr,h2⟩:=h ad e
 exact⟨h1,cs0,fr,(ha.block _ (heapLt h2) (.inr (by omega))).trans h2⟩
theorem NewT.readsRow {n k c b:Nat}{w:World}{T t:TypeId}{A:Option Addr}{vs:List Value}{cur:Array Value}{fr:Nat×Nat}(h:NewT n w T A)(hr:Reads w A c k vs)(hb:w.heap[b]? =some (.cells cur t fr))(hne:t≠T)(cs:Array Value):Reads (w.setRow b cs) A c k vs:=
 hr.offRow b cs (fun _ ad e=>by
  intro e1
  obtain⟨_,cs0,fr0,h2⟩:=h ad e
  rw[e1,hb]at h2
  injection h2 with h2
  injection h2 with _ h2
  exact hne h2)
theorem listStore {P:Program}{ops:Array Oper}{rest:List Oper}{op:Oper}{a:Act}{w:World}{Q:Exit→Act→World→Prop}(hw:Region.wanted op (yielded ops a.tmps)=true)(ty:TypeId)(x y:Operand)(ho:op.op= .store ty x y)
 (b:Nat) (cells cur:Array Value) (t:TypeId) (hx:a.eval x= .pointer (some ⟨b,0,none⟩)) (hy:a.eval y= .agg cells) (hg:w.heap[b]? =some (.cells cur t (0,0))) (hsz:cur.size=cells.size)
 (hi:(P.info? ty).map (·.size)=some cells.size) (h1:cells.all (·.oneCell')=true) (h:wpList P ops Q rest (a.put op.dst undef) (w.setRow b cells)):wpList P ops Q (op::rest) a w:=
 listWants hw fun _ hK=>wp_store_whole ty x y ho b cells cur t hx hy hg hsz hi h1 (hK _ _ h)
theorem lS {P:Program}{ops:Array Oper}{rest:List Oper}{op:Oper}{a:Act}{w:World}{Q:Exit→Act→World→Prop}{ty:TypeId}{x y:Operand}{b:Nat}(cells:Array Value){cur:Array Value}{t:TypeId}(hg:w.heap[b]? =some (.cells cur t (0,0)))(h:wpList P ops Q rest (a.put op.dst undef) (w.setRow b cells))(ho:op.op= .store ty x y:=by exact rfl)(hx:a.eval x= .pointer (some ⟨b,0,none⟩):=by with_unfolding_all exact rfl)(hy:a.eval y= .agg cells:=by with_unfolding_all exact rfl)(hw:Region.wanted op (yielded ops a.tmps)=true:=by kernel_rfl)(hs:cur.size=cells.size:=by kernel_rfl)(hi:(P.info? ty).map (·.size)=some cells.size:=by kernel_rfl)(h1:cells.all (·.oneCell')=true:=by kernel_rfl):wpList P ops Q (op::rest) a w:=listStore hw ty x y ho b cells cur t hx hy hg hs hi h1 h
theorem results_cell2 {P:Program}{fn:Func}{p q:Tmp}{ty:TypeId}(h:fn.results=#[.cell p ty,.tmp q])(tmps:Array Value)(w:World){ad:Addr}(hp:tmps.getD p undef= .pointer (some ad)){v:Value}(hl:(loadVar ty ad).run P w= .ok v w){v2:Value}(h2:tmps.getD q undef=v2):
 (results fn tmps).run P w= .ok (.tuple #[v,v2]) w:=by
 simp only[results,h]
 have hp':tmps[p]?.getD undef= .pointer (some ad):=by simpa using hp
 have h2':tmps[q]?.getD undef=v2:=by simpa using h2
 simp[Result.andThen,hp',h2',asAddr,hl]
theorem results_cell3 {P:Program}{fn:Func}{p q r:Tmp}{ty:TypeId}(h:fn.results=#[.cell p ty,.tmp q,.tmp r])(tmps:Array Value)(w:World){ad:Addr}(hp:tmps.getD p undef= .pointer (some ad)){v:Value}(hl:(loadVar ty ad).run P w= .ok v w){v2 v3:Value}(h2:tmps.getD q undef=v2)(h3:tmps.getD r undef=v3):
 (results fn tmps).run P w= .ok (.tuple #[v,v2,v3]) w:=by
 simp only[results,h]
 have hp':tmps[p]?.getD undef= .pointer (some ad):=by simpa using hp
 have h2':tmps[q]?.getD undef=v2:=by simpa using h2
 have h3':tmps[r]?.getD undef=v3:=by simpa using h3
 simp[Result.andThen,hp',h2',h3',asAddr,hl]
theorem results_cells {P:Program}{fn:Func}{p q r:Tmp}{ty ty2:TypeId}(h:fn.results=#[.cell p ty,.cell q ty2,.tmp r])(tmps:Array Value)(w:World){ad ad2:Addr}(hp:tmps.getD p undef= .pointer (some ad))(hq:tmps.getD q undef= .pointer (some ad2)){v v2:Value}(hl:(loadVar ty ad).run P w= .ok v w)(hl2:(loadVar ty2 ad2).run P w= .ok v2 w){v3:Value}(h3:tmps.getD r undef=v3):
 (results fn tmps).run P w= .ok (.tuple #[v,v2,v3]) w:=by
 simp only[results,h]
 have hp':tmps[p]?.getD undef= .pointer (some ad):=by simpa using hp
 have hq':tmps[q]?.getD undef= .pointer (some ad2):=by simpa using hq
 have h3':tmps[r]?.getD undef=v3:=by simpa using h3
 simp[Result.andThen,hp',hq',h3',asAddr,hl,hl2]
end Go.Proofs.YtmfkhdhnbkambaaGreatDoor
