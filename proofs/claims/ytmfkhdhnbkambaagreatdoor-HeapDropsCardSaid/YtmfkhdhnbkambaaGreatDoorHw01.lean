import Derived.Test.YtmfkhdhnbkambaaGreatDoorHw00
import Derived.Test.YtmfkhdhnbkambaaGreatDoorRows
import Derived.WalkKit
import Derived.ProofKit
import Derived.OpenShut
import Derived.SizedLaws
import Derived.Below
import Derived.Carry
import Derived.ChangeSame
import Derived.Lib.SmallJoins
import Derived.Test.YtmfkhdhnbkambaaGreatDoorProg
import Derived.WalkSpells
import Derived.WalkLawsBesides
import Derived.Lib.Hide
import Derived.Lib.ConvBytes
import Derived.Shelf.Strings.Builder1
import Derived.Shelf.Strings.Builder2
import Derived.Shelf.Small.Bits
import Derived.Shelf.Small.Wraps
import Derived.Shelf.Strings.BuilderF
import Derived.Shelf.Strings.BuilderK
import Derived.Shelf.Strings.Builder2Cap
import Derived.Shelf.Strconv.Atoi
import Derived.Shelf.Strconv.Itoa0
import Derived.Shelf.Strconv.Itoa1
import Derived.Shelf.LaysM
import Derived.Shelf.Strconv.Itoa2
import Derived.Shelf.Strconv.Itoa3
import Derived.Shelf.Strconv.AtoiErrFast
import Derived.Shelf.Strconv.ParseIntEmpty
import Derived.Shelf.Strconv.AtoiFail
import Derived.Shelf.Strconv.Clone
import Derived.Shelf.Strconv.SyntaxError
import Derived.Shelf.LaysC
import Derived.Shelf.Strconv.ToError
import Derived.Shelf.Strconv.Lower
import Derived.Shelf.Strconv.ParseUint10
import Derived.Shelf.Strconv.ParseUint10Empty
import Derived.Shelf.Strconv.ParseUint10Any
import Derived.Shelf.Strconv.ParseInt10
import Derived.Shelf.Strconv.AtoiLong
import Derived.Shelf.Strconv.AtoiInnerAll
import Derived.Shelf.Strconv.RangeError
import Derived.Shelf.Strconv.ToErrorRange
import Derived.Shelf.Strconv.AtoiAll
import Derived.Shelf.Strconv.ErrVarAll
import Derived.Shelf.Strings.Prefix
import Derived.Shelf.Bits.Mul64
import Derived.Shelf.Strings.Repeat
import Derived.Shelf.Strings.BuilderCap
import Derived.Ground.Names2Prog
import Derived.Shelf.Slices.Clone
import Derived.Shelf.Slices.SearchI
import Derived.Ground.SlgnProg
import Derived.Shelf.SlicesE.Clone
import Derived.Lib.AppendStr
import Derived.RegionTactic
import Derived.BigRegion
import Derived.ChangeAlike
import Derived.Lib.UnsafeStr
import Derived.Lib.Builder
import Derived.Deep.QuietTactic
import Derived.BigQuiet
import Derived.Deep.DeepCutAuto
import Derived.Deep.LoopGhost
import Derived.Deep.RegionHeld3
import Derived.Deep.AppendLies
import Derived.Deep.MidRow
import Derived.Laws.ResultCell
import Derived.Laws.Tables
import Derived.Laws.StructEq
import Derived.Laws.CopyOwn
import Derived.Laws.MakeOwn
import Derived.Laws.OwnMore
import Derived.Maps.AppendAt
import Derived.OwnWalk
import Derived.IntWalk
import Derived.OrdersHeld
set_option maxRecDepth 100000
set_option maxHeartbeats 16000000
set_option linter.unusedSimpArgs false
namespace Go.Proofs.YtmfkhdhnbkambaaGreatDoor
open Go.ChangeShapes Go.WideShapes Go.ChangeAt Go.RowKit
theorem own:ownKnob Tryz.prog.godebug=none:=by kernel_rfl
theorem laidOut:laidOutB Tryz.prog=true:=by kernel_rfl
section
variable {H : Type} {enc : TypeId × Value → H} {P : Program}
theorem trodAll_again (k:laidOutB P=true){W i:World}(l:Bw W i){sp:Nat→Bool}:∀ {ts:List TypeId} {vs:List Value} {ds:List (DataW H)} {ps:List MemPlace},(ts.all fun t=>P.readableRec t&&decide (t<P.types.size))=true→
 DataW.TrodAll enc P W 0 (fun _=>true) true ts vs ds ps→(∀ x∈ps,x.block<W.heap.size)→(∀ x∈ps,sp x.block=true)→DataW.TrodAll enc P i 0 sp true ts vs ds ps:=by
 intro ts
 induction ts with
 |nil=>
  intro vs ds ps _ h _ _;obtain⟨rfl,rfl,rfl⟩:=trodAll_nil h;exact trodAll_mk0
 |cons t ts ih=>
  intro vs ds ps j h b c;obtain⟨v,m,d,n,p,q,rfl,rfl,rfl,o,r⟩:=trodAll_cons h;simp only[List.all_cons,Bool.and_eq_true]at j;obtain⟨⟨e,f⟩,g⟩:=j;refine trodAll_cons_mk (WideElems.Trod_stays k e (of_decide_eq_true f) o (fun x a=>l.same (b x (List.mem_append_left _ a))) (fun x a=>c x (List.mem_append_left _ a))) ?_;exact ih (by simpa using g) r (fun x a=>b x (List.mem_append_right _ a)) (fun x a=>c x (List.mem_append_right _ a))
theorem post_again {f:Func}{s:ChangeSpec}{apart fresh handsOn again:Bool}{W W':World}{args:Array Value}{v:Value}{h gs:List (DataW H)}{before i k:List MemPlace}
 (n:DataW.Whole enc P f.params.toList s.vars apart W args.toList h gs before)
 (g:∀ (b:Nat) (sp:Nat→Bool) (hd:Bool),DataW.TrodAll enc P W' b sp hd f.resultTypes.toList (v.resultList f.resultTypes.size) (s.fn H (h++gs)).results [])
 (a:∀ sp:Nat→Bool,(∀ p∈before,sp p.block=true)→DataW.TrodAll enc P W' 0 sp true f.params.toList args.toList (s.fn H (h++gs)).args i)
 (c:∀ sp:Nat→Bool,(∀ p∈before,sp p.block=true)→DataW.TrodVars enc P W' sp s.vars (s.fn H (h++gs)).vars k)
 (e:before=i++k) (q:Bw W W')
 (o:∀ (j:Nat) (t:TypeId) (r:Value),f.resultTypes[j]? =some t→(v.resultList f.resultTypes.size)[j]? =some r→Value.okWide P W' .any 0 t r):
 s.post enc P f apart fresh handsOn again W args v W':=by
 have l:∀ p∈before,p.block<W.heap.size:=fun p d=>n.lt p d;have hold:∀ p∈before,(fun b=>decide (b<W.heap.size)) p.block=true:=fun p d=>by simpa using l p d
 refine⟨h,gs,before,[],i,k,n,g _ _ _,a _ hold,c _ hold,World.keptBut_mono (fun p d=>⟨d,?_⟩) (q.frame (·∈before)),fun _=>?_⟩
 ·rw[e,List.mem_append]at d
  exact Or.inr d
 ·obtain⟨_,_,_,_,_,u,w⟩:=n
  refine⟨o,_,_,([]++i)++k,⟨[]++i,k,trodAll_append (a _ (fun _ _=>rfl)) (g _ _ _),c _ (fun _ _=>rfl),rfl,?_,?_⟩,?_⟩
  ·intro b off d
   have m:MemPlace.cell b off∈before:=(by rw[e];simpa using d);rw[q.frozen (l _ m)];exact u b off m
  ·intro x
   have:=w x;rw[e]at this
   simpa using this
  ·intro p d _
   rw[e]
   simpa using d
end
section
variable {H : Type} {enc : TypeId × Value → H} {w : World} {base : Nat} {spare : Nat → Bool} {held : Bool}
end
end Go.Proofs.YtmfkhdhnbkambaaGreatDoor
namespace Oct
def word (n:Int):Nat:=(n%18446744073709551616).toNat
theorem word_lt (n:Int):word n<18446744073709551616:=by unfold word;omega
theorem D7 (n:Nat)(h:n<18446744073709551616):word (n:Int)=n:=by unfold word;omega
def Bm (u:Nat):Nat→List UInt8
 |0=>[]
 |k+1=>Bm (u/256) k++[UInt8.ofNat (u%256)]
theorem Bc (u k:Nat):(Bm u k).length=k:=by
 induction k generalizing u with
 |zero=>rfl
 |succ k ih=>simp[Bm,ih]
theorem mV (k:Nat):∀ (u i:Nat),i<k→(Bm u k)[i]? =some (UInt8.ofNat (u/256^(k-1-i)%256)):=by
 induction k with
 |zero=>intro u i h;omega
 |succ k ih=>
  intro u i h;rw[Bm]
  by_cases a:i<k
  ·rw[List.getElem?_append_left (by rw[Bc];exact a),ih (u/256) i a]
   congr 2
   rw[show k+1-1-i=(k-1-i)+1 by omega,Nat.pow_succ,Nat.mul_comm,Nat.div_div_eq_div_mul]
  ·obtain rfl:i=k:=by omega
   rw[List.getElem?_append_right (by rw[Bc];omega),Bc]
   simp
def Bh (n size:Int):ByteArray:=if size<0∨8<size then⟨#[]⟩else⟨(Bm (word n) size.toNat).toArray⟩
theorem Bn (n:Int)(k:Nat)(h:k≤8):(Bh n k).size=k:=by
 unfold Bh;rw[if_neg (by omega)]
 show(Bm _ _).toArray.size=_
 simp[Bc]
theorem Ca (n:Int)(k:Nat)(h:k≤8):(Bh n k).data.toList=Bm (word n) k:=by
 unfold Bh;rw[if_neg (by omega)]
 simp
def N6 (l:List UInt8):Nat:=l.foldl (fun n c=>256*n+c.toNat) 0
theorem Ph (l:List UInt8)(c:UInt8):N6 (l++[c])=256*N6 l+c.toNat:=by simp[N6,List.foldl_append]
theorem It (l:List UInt8):N6 l<256^l.length:=by
 have key:∀ (n:Nat) (l:List UInt8),l.length=n→N6 l<256^n:=by
  intro n
  induction n with
  |zero=>intro l h;rw[List.eq_nil_of_length_eq_zero h];simp[N6]
  |succ n ih=>
   intro l h;have a:l≠[]:=(by intro e;rw[e]at h;simp at h);rw[← List.dropLast_concat_getLast a,Ph,Nat.pow_succ];have b:=ih l.dropLast (by simp[h]);have c:=(l.getLast a).toNat_lt;omega
 exact key _ l rfl
theorem iC (k:Nat):∀ u:Nat,N6 (Bm u k)=u%256^k:=by
 induction k with
 |zero=>intro u;simp[Bm,N6,Nat.mod_one]
 |succ k a=>
  intro u;rw[Bm,Ph,a];have b:(UInt8.ofNat (u%256)).toNat=u%256:=by rw[UInt8.toNat_ofNat'];omega
  rw[b,Nat.pow_succ,Nat.mul_comm (256^k) 256,Nat.mod_mul];omega
theorem rO (x c:Nat)(hc:c<256):(256*x)|||c=256*x+c:=by
 have h:=Nat.shiftLeft_add_eq_or_of_lt (i:=8) (b:=c) (by omega) x;rw[Nat.shiftLeft_eq,Nat.mul_comm x (2^8)]at h;exact h.symm
theorem iD (l:List UInt8)(k:Nat)(hk:k<l.length):N6 (l.take (k+1))=256*N6 (l.take k)+(l[k]?.getD 0).toNat:=by
 rw[List.take_succ_eq_append_getElem hk,Ph,List.getElem?_eq_getElem hk];rfl
theorem V6 (l:List UInt8)(k:Nat)(hk:k<8):N6 (l.take k)<72057594037927936:=by
 have h:=It (l.take k);have a:256^(l.take k).length≤256^7:=Nat.pow_le_pow_right (by omega) (by rw[List.length_take];omega);omega
def intOf (u:Nat):Int:=if u<9223372036854775808 then(u:Int)else(u:Int)-18446744073709551616
def Dj (s:List UInt8)(at_ size:Nat):Nat:=N6 ((s.drop at_).take size)
def there (len:Nat)(at_ size:Int):Bool:=decide (1≤size)&&decide (size≤8)&&decide (0≤at_)&&decide (at_+size≤len)
def Q2 (n:Nat):Nat:=if n%2=1 then(n/2) ^^^ 3988292384 else n/2
def Qc:Nat→Nat→Nat
 |0,n=>n
 |k+1,n=>Qc k (Q2 n)
def Mv (n:Nat)(c:UInt8):Nat:=Qc 8 (n ^^^ c.toNat)
def Ep (n:Nat)(l:List UInt8):Nat:=l.foldl Mv n
def Gr (l:List UInt8):Nat:=Ep 4294967295 l ^^^ 4294967295
theorem V7 (n:Nat)(l:List UInt8)(c:UInt8):Ep n (l++[c])=Mv (Ep n l) c:=by simp[Ep,List.foldl_append]
theorem Rn (k n:Nat):Qc (k+1) n=Q2 (Qc k n):=by
 induction k generalizing n with
 |zero=>rfl
 |succ k ih=>exact ih (Q2 n)
theorem rP {n:Nat}(h:n<4294967296):Q2 n<4294967296:=by
 unfold Q2
 split
 ·exact Nat.xor_lt_two_pow (n:=32) (by omega) (by omega)
 ·omega
theorem Ro (k:Nat):∀ {n:Nat},n<4294967296→Qc k n<4294967296:=by
 induction k with
 |zero=>intro n h;exact h
 |succ k ih=>intro n h;exact ih (rP h)
theorem bN {n:Nat}(h:n<4294967296)(c:UInt8):Mv n c<4294967296:=
 Ro 8 (Nat.xor_lt_two_pow (n:=32) h (by have:=c.toNat_lt;omega))
theorem N7 (l:List UInt8):∀ {n:Nat},n<4294967296→Ep n l<4294967296:=by
 induction l with
 |nil=>intro n h;exact h
 |cons c l ih=>intro n h;exact ih (bN h c)
theorem fB (l:List UInt8):Gr l<4294967296:=Nat.xor_lt_two_pow (n:=32) (N7 l (by omega)) (by omega)
end Oct
namespace Go.Proofs.YtmfkhdhnbkambaaGreatDoor
open Go.RowKit
def X7 (n:Int)(size i:Nat):Int:=IntKind.u64.wrap n/2^(8*(size-1-i))%256
theorem Ur (n:Int):IntKind.u64.wrap n=(Oct.word n:Int):=by
 show n%18446744073709551616=_
 unfold Oct.word;omega
theorem mW (n:Int)(size i:Nat):X7 n size i=((Oct.word n/256^(size-1-i)%256:Nat):Int):=by
 have e:(256:Nat)^(size-1-i)=2^(8*(size-1-i)):=by rw[Nat.pow_mul]
 rw[X7,Ur,e]
 simp
def Js (n:Int)(size k:Nat):Array Value:=((List.range size).map fun i=>Value.int .u8 (if i<k then X7 n size i else 0)).toArray
theorem Tryz.elem8:(Tryz.prog.info? 5).map (fun i=>(i.zero,i.size,i.bytes))=some (some (.int .u8 0),1,1):=by kernel_rfl
theorem X8 (n:Int)(size:Nat):madeCells (Value.int .u8 0).cells (size*1)=Js n size 0:=by
 apply Array.ext_getElem?
 intro i;simp only[madeCells,Js,Nat.mul_one]
 by_cases h:i<size
 ·simp[h,Value.cells,Nat.mod_one]
 ·simp[h]
theorem X9 (n:Int)(size k:Nat)(_hk:k<size):(Js n size k).setIfInBounds k (.int .u8 (X7 n size k))=Js n size (k+1):=by
 apply Array.ext_getElem?
 intro i;simp only[Js,List.setIfInBounds_toArray,List.getElem?_toArray,List.getElem?_set,List.getElem?_map,List.length_map,List.length_range]
 by_cases a:k=i
 ·subst a
  simp[_hk]
 ·rw[if_neg a]
  by_cases h:i<size
  ·simp only[List.getElem?_range h,Option.map_some]
   by_cases b:i<k
   ·rw[if_pos b,if_pos (by omega)]
   ·rw[if_neg b,if_neg (by omega)]
  ·simp[h]
theorem Rp (n:Int)(size k j:Nat)(a:j<size):(Js n size k)[j]? =some (.int .u8 (if j<k then X7 n size j else 0)):=by
 simp[Js,a]
theorem iE (n:Int)(size j:Nat)(a:j<(Oct.Bm (Oct.word n) size).length):(Js n size size)[j]? =some (.int .u8 ((Oct.Bm (Oct.word n) size)[j].toNat:Int)):=by
 have b:=Oct.Bc (Oct.word n) size;rw[Rp n size size j (by omega),if_pos (by omega),mW];have h:=Oct.mV size (Oct.word n) j (by omega);rw[List.getElem?_eq_getElem a]at h
 injection h with h
 rw[h,UInt8.toNat_ofNat'];have:Oct.word n/256^(size-1-j)%256%2^8=Oct.word n/256^(size-1-j)%256:=by omega
 rw[this]
theorem mX (n:Int)(size:Nat)(e:size≤8)(W:World):(Instr.makeSlice 112 (.int .i64 (size:Int)) (.int .i64 (size:Int))).run Tryz.prog W= .ok (.slice (some ⟨W.heap.size,0,none⟩) size size) (W.alloc (.cells (Js n size 0) 5)):=by
 obtain⟨i0,d,a,b,c⟩:=info_parts Tryz.elem8;have h:=run_make (P:=Tryz.prog) W 112 5 i0 (.int .u8 0) Hw d a .i64 .i64 size size (by omega) (by omega) (by rw[c];omega) (by omega);rw[b,Int.toNat_natCast,X8 n size]at h;exact h
theorem Ya (n:Int)(size:Nat)(w:World):(convert 112 9 (.slice (some ⟨w.heap.size,0,none⟩) size size)).run Tryz.prog (w.alloc (.cells (Js n size size) 5))= .ok (.string ⟨(Oct.Bm (Oct.word n) size).toArray⟩) (w.alloc (.cells (Js n size size) 5)):=by
 have a:=Oct.Bc (Oct.word n) size;have h:=run_convert_bytes_back (P:=Tryz.prog) (w.alloc (.cells (Js n size size) 5)) 112 9 5 ⟨w.heap.size,0,none⟩ size (Oct.Bm (Oct.word n) size) Hw mQ bM (fun j b=>by
  have c:(⟨w.heap.size,0,none⟩:Addr).add j=⟨w.heap.size,j,none⟩:=by
   unfold Addr.add;split
   ·rename_i h;rw[h]
   ·simp
  rw[c,World.cell?_alloc_new];exact iE n size j b)
 rw[a]at h;exact h
theorem mY (n:Int)(size:Nat)(c:size≤8)(w:World):
 Cr 153 #[n,size] w (.string (Oct.Bh n size)):=by
 have b:=mX n size c;have d:=Hq (show Oct.Bh n size=⟨(Oct.Bm (Oct.word n) size).toArray⟩from by rw[Oct.Bh,if_neg (by omega),Int.toNat_natCast]);go_enter Tryz.func153,Tryz.ntmps153;go_wp2_with fail;clear b
 go_loopw [17] (fun i wr=>∃ k:Nat,k≤size∧i= .int .i64 k∧wr=w.alloc (.cells (Js n size k) 5)) (fun i _=>size-(intOf i).toNat)
 case atStart=>exact⟨0,Nat.zero_le _,rfl,rfl⟩
 case round=>
  obtain⟨k,hk,rfl,rfl⟩:=hrel
  by_cases a:k<size
  ·have g:(Js n size k)[k]? =some (.int .u8 0):=by rw[Rp n size k k a,if_neg (by omega)]
   have e:=Hq (X9 n size k a);go_wp2_with fail;go_roundw
   case rel=>exact⟨k+1,by omega,by go_num,by rw[← e.out];rfl⟩
   case measure=>simp[intOf];omega
  ·obtain rfl:size=k:=by omega
   have f:=Ya n size w;go_wp2_with fail;go_ret;exact⟨by rw[d.out];rfl,(Below.refl _ _).alloc (Nat.le_refl _) _⟩
theorem Hp (n size:Int)(a:0≤size)(b:size≤8)(w:World):
 Cr 153 #[n,size] w (.string (Oct.Bh n size)):=by
 obtain⟨k,rfl⟩:=Int.eq_ofNat_of_zero_le a;exact mY n k (by omega) w
def V8 (t:ByteArray)(k:Nat):Int:=(Oct.N6 (t.data.toList.take k):Int)
theorem rQ (x c:Nat)(b:x<72057594037927936)(a:c<256):bits .or .u64 (IntKind.u64.wrap ((x:Int)*256)) (IntKind.u64.wrap (c:Int))=((256*x+c:Nat):Int):=by
 rw[IntKind.wrap_u64,IntKind.wrap_u64,show(x:Int)*256%18446744073709551616=((256*x:Nat):Int) by omega,show(c:Int)%18446744073709551616=(c:Int) by omega,bits_or_u64_nat _ _ (by omega) (by omega),Oct.rO x c a]
theorem Us (t:ByteArray)(k:Nat)(hk:k<t.size)(a:k<8):bits .or .u64 (IntKind.u64.wrap (V8 t k*256)) (IntKind.u64.wrap ((t.data[k]?.getD 0).toNat:Int))=V8 t (k+1):=by
 have b:k<t.data.toList.length:=by simpa using hk
 have e:t.data.toList[k]?.getD 0=t.data[k]?.getD 0:=by simp
 unfold V8;rw[Oct.iD _ k b,e,rQ _ _ (Oct.V6 _ k a) (t.data[k]?.getD 0).toNat_lt]
theorem Yb (u:Nat)(h:u<18446744073709551616):wrap64 (u:Int)=Oct.intOf u:=by
 unfold Oct.intOf wrap64
 split<;>omega
theorem Ly (w:World)(e:TypeId)(s:ByteArray):Bw w (Lib.bytesWorld w e s):=
 ⟨rfl,rfl,rfl,by rw[Lib.bytesWorld_size];omega,fun j a=>Lib.bytesWorld_at_old w e s j a⟩
theorem rR (s:ByteArray)(a size:Nat)(l:1≤size)(m:size≤8)(o:a+size≤s.size)(z:s.size≤281474976710656)(w:World):
 Cr 236 #[s,.int .i64 (a:Int),.int .i64 (size:Int)] w (.tuple #[.int .i64 (Oct.intOf (Oct.Dj s.data.toList a size)),true]):=by
 obtain⟨t,f⟩:=ex (s.extract a (a+size):ByteArray);have b:t.data.toList=(s.data.toList.drop a).take size:=by rw[f];simp
 have c:t.size=size:=by rw[f,ByteArray.size_extract];omega
 have h:=fun W=>Lib.run_convert_string_bytes (P:=Tryz.prog) W 9 112 5 (s.extract a (a+size)) bM Hw mQ;have p:=Hq f;have q:=Hq b;have g:=Hq c;clear f b c;go_enter Tryz.func236,Tryz.ntmps236;go_wp2_with fail;clear h;generalize d:Lib.bytesWorld w 5 (s.extract a (a+size))=wt;have j:=Hq d;clear d;have r:=Hq (show ∀ k,k<size→wt.cell? ⟨w.heap.size,k,none⟩=some (.int .u8 ((t.data.toList.getD k 0).toNat:Int))from fun k hk=>by
  rw[← j.out,← p.out];exact Lib.bytesWorld_cell w 5 t k (by rw[g.out];exact hk))
 go_loop [8,43] (fun n i=>∃ k:Nat,k≤size∧i= .int .i64 k∧n= .int .u64 (V8 t k)) (fun _ i=>size-(intOf i).toNat)
 case atStart=>exact⟨0,Nat.zero_le _,rfl,rfl⟩
 case round=>
  obtain⟨k,hk,rfl,rfl⟩:=hrel
  by_cases e:k<size
  ·have A:=r.out k e
   have u:=Hq (Us t k (by rw[g.out];exact e) (by omega));go_wp2_with fail
   go_round
   case rel=>exact⟨k+1,by omega,by go_num,by rw[u.out]⟩
   case measure=>simp[intOf];omega
  ·obtain rfl:size=k:=by omega
   have v:=Hq (show wrap64 (V8 t size)=Oct.intOf (Oct.Dj s.data.toList a size) by
    have x:t.data.toList.take size=t.data.toList:=List.take_of_length_le (by have:=g.out;simp;omega);have y:Oct.N6 t.data.toList<18446744073709551616:=by
     have:=Oct.It t.data.toList;have B:256^t.data.toList.length≤256^8:=Nat.pow_le_pow_right (by omega) (by have:=g.out;simp;omega);omega
    rw[V8,x,Yb _ y,q.out];rfl)
   go_wp2_with fail;go_ret2;refine⟨by rw[← v.out];rfl,?_⟩;rw[← j.out];exact Ly _ _ _
theorem mZ (n:Nat)(c:UInt8)(a:n<4294967296):bits .xor .u32 (n:Int) ((c.toNat:Int)%4294967296)=((n ^^^ c.toNat:Nat):Int):=by
 have:=c.toNat_lt;rw[show(c.toNat:Int)%4294967296=(c.toNat:Int) by omega,u32_xor_nat _ _ a (by omega)]
theorem rS (n:Nat)(a:n<4294967296):bits .and .u32 (n:Int) 1=((n%2:Nat):Int):=by
 have h:=u32_and_nat n 1 a (by omega);rw[Nat.and_one_is_mod]at h;exact h
theorem rT (n:Nat)(a:n<4294967296):bits .xor .u32 ((n:Int)/2) (3988292384*bits .and .u32 (n:Int) 1%4294967296)=(Oct.Q2 n:Int):=by
 rw[rS n a];unfold Oct.Q2
 by_cases h:n%2=1
 ·rw[if_pos h,h,show(3988292384*((1:Nat):Int))%4294967296=((3988292384:Nat):Int) by omega,show(n:Int)/2=((n/2:Nat):Int) by omega,u32_xor_nat _ _ (by omega) (by omega)]
 ·have b:n%2=0:=by omega
  rw[if_neg h,b,show(3988292384*((0:Nat):Int))%4294967296=((0:Nat):Int) by omega,show(n:Int)/2=((n/2:Nat):Int) by omega,u32_xor_nat _ _ (by omega) (by omega),Nat.xor_zero]
theorem rU (n:Nat)(a:n<4294967296):wrap64 (bits .xor .u32 IntKind.u32.max (n:Int))=((n ^^^ 4294967295:Nat):Int):=by
 have b:4294967295 ^^^ n<2^32:=Nat.xor_lt_two_pow (by omega) a;have h:=u32_xor_nat 4294967295 n (by omega) a;rw[show IntKind.u32.max=((4294967295:Nat):Int)from rfl,h,Nat.xor_comm];rw[Nat.xor_comm]at b;exact IntWalk.wrap64_in _ ⟨by omega,by omega⟩
theorem Yc (s:ByteArray)(k:Nat)(h:k<s.size):Oct.Ep 4294967295 (s.data.toList.take (k+1))=Oct.Mv (Oct.Ep 4294967295 (s.data.toList.take k)) s[k]:=by
 rw[List.take_succ_eq_append_getElem (by simpa using h),Oct.V7];rfl
theorem fC (s:ByteArray)(t:s.size≤281474976710656)(w:World):
 Cq 215 #[s] w fun e w'=>e= .returned (.int .i64 (Oct.Gr s.data.toList))∧w=w':=by
 go_enter Tryz.func215,Tryz.ntmps215;go_wp2_with fail
 go_loop [3,4] (fun n i=>∃ k:Nat,k≤s.size∧i= .int .i64 k∧n= .int .u32 (Oct.Ep 4294967295 (s.data.toList.take k))) (fun _ i=>s.size-(intOf i).toNat)
 case atStart=>exact⟨0,Nat.zero_le _,rfl,rfl⟩
 case round=>
  obtain⟨k,hk,rfl,rfl⟩:=hrel;have b:=Oct.N7 (s.data.toList.take k) (n:=4294967295) (by omega)
  by_cases c:k<s.size
  ·have g:=Hq (mZ (Oct.Ep 4294967295 (s.data.toList.take k)) s[k] b)
   have a:Oct.Ep 4294967295 (s.data.toList.take k) ^^^ s[k].toNat<4294967296:=Nat.xor_lt_two_pow (n:=32) b (by have:=s[k].toNat_lt;omega);have h:=Hq (Yc s k c);go_wp2_with fail;rw[g.out];generalize f:Oct.Ep 4294967295 (s.data.toList.take k) ^^^ s[k].toNat=r0 at a ⊢;have l:=Hq f;clear f
   go_loop [3,18] (fun n i=>∃ j:Nat,j≤8∧i= .int .i64 j∧n= .int .u32 (Oct.Qc j r0)) (fun _ i=>8-(intOf i).toNat)
   case atStart=>exact⟨0,Nat.zero_le _,rfl,rfl⟩
   case round=>
    obtain⟨j,u,rfl,rfl⟩:=hrel;have m:=Oct.Ro j a
    by_cases o:j<8
    ·have p:=Hq (rT (Oct.Qc j r0) m)
     have d:=Hq (Oct.Rn j r0);go_wp2_with fail
     go_round
     case rel=>exact⟨j+1,by omega,by go_num,by rw[d.out,← p.out]⟩
     case measure=>simp[intOf];omega
    ·obtain rfl:j=8:=by omega
     go_wp2_with fail
     go_round
     case rel=>exact⟨k+1,by omega,by go_num,by rw[h.out,Oct.Mv,l.out]⟩
     case measure=>simp[intOf];omega
  ·obtain rfl:k=s.size:=by omega
   go_wp2_with fail;have q:=Hq (rU _ b);have r:=Hq (show Oct.Ep 4294967295 (s.data.toList.take s.size) ^^^ 4294967295=Oct.Gr s.data.toList by rw[List.take_of_length_le (by simp)];rfl);go_ret;exact⟨by rw[← r.out,← q.out];rfl,rfl⟩
theorem iF (u k:Nat):Oct.Bm u (k+1)=UInt8.ofNat (u/256^k%256)::Oct.Bm u k:=by
 induction k generalizing u with
 |zero=>simp[Oct.Bm]
 |succ k ih=>
  rw[Oct.Bm,ih,Oct.Bm];simp only[List.cons_append];rw[Nat.div_div_eq_div_mul,Nat.pow_succ,Nat.mul_comm 256]
theorem nA (c:Nat)(b:c<256)(W:World):(convert 112 9 (.slice (some ⟨W.heap.size,0,none⟩) 1 1)).run Tryz.prog (W.alloc (.cells #[.int .u8 (c:Int)] 5))= .ok (.string ⟨#[UInt8.ofNat c]⟩) (W.alloc (.cells #[.int .u8 (c:Int)] 5)):=by
 have h:=run_convert_bytes_back (P:=Tryz.prog) (W.alloc (.cells #[.int .u8 (c:Int)] 5)) 112 9 5 ⟨W.heap.size,0,none⟩ 1 [UInt8.ofNat c] Hw mQ bM (fun j a=>by
  obtain rfl:j=0:=by simpa using a
  show World.cell? _ ⟨W.heap.size,0,none⟩=_
  rw[World.cell?_alloc_new];have e:(UInt8.ofNat c).toNat=c:=by rw[UInt8.toNat_ofNat'];omega
  simp[e])
 exact h
theorem iG (n:Int)(size:Nat)(G:size≤8)(w:World):
 Cr 73 #[n,size] w (.string (Oct.Bh n size)):=by
 have v:=Hq (show Oct.Bh n size=⟨(Oct.Bm (Oct.word n) size).toArray⟩from by rw[Oct.Bh,if_neg (by omega),Int.toNat_natCast]);go_enter Tryz.func73,Tryz.ntmps73;go_wp2_with fail
 go_loopw [5,6,7] (fun o u i wr=>∃ k x:Nat,k≤size∧i= .int .i64 k∧u= .int .u64 (x:Int)∧x=Oct.word n/256^k∧o= .string ⟨(Oct.Bm (Oct.word n) k).toArray⟩∧Bw w wr) (fun _ _ i _=>size-(intOf i).toNat)
 case atStart=>exact⟨0,Oct.word n,Nat.zero_le _,rfl,by rw[← Ur],by simp,rfl,Below.refl _ _⟩
 case round=>
  obtain⟨k,x,hk,rfl,rfl,d,rfl,e⟩:=hrel;have m:=Hq d;have f:x<18446744073709551616:=by
   rw[d];exact Nat.lt_of_le_of_lt (Nat.div_le_self _ _) (Oct.word_lt n)
  clear d
  by_cases z:k<size
  ·obtain⟨c,g⟩:=ex (x%256:Nat)
   obtain⟨y,p⟩:=ex (x/256:Nat);have hand:bits .and .u64 (x:Int) 255=(c:Int):=by
    have h:=bits_and_u64_nat x 255 f (by omega);rw[show x&&&255=x%256 from Nat.and_two_pow_sub_one_eq_mod x 8,← g]at h;exact h
   have hdiv:(x:Int)/256=(y:Int):=(by omega);have a:c<256:=(by omega);have A:(c:Int)<256:=(by omega);have q:(c:Int)%256=(c:Int):=(by omega);have B:=nA c a;have j:(Oct.Bm (Oct.word n) k).length≤8:=(by rw[Oct.Bc];omega);generalize r:Oct.Bm (Oct.word n) k=l at j ⊢;have C:=Hq r;have D:=Hq g;have E:=Hq p;clear r g p;obtain⟨t,b⟩:=ex (⟨l.toArray⟩:ByteArray);have s:∀ W:World,(Op.stringOp .add ⟨#[UInt8.ofNat c]⟩ t).run Tryz.prog W= .ok (.string (⟨#[UInt8.ofNat c]⟩++t)) W:=fun W=>run_string_add_sum W _ _ (by
    rw[b]
    show 1+l.toArray.size≤_
    simp;omega)
   rw[← b];have F:=Hq b;clear b;go_wp2_with fail;go_roundw
   case rel=>exact⟨k+1,y,by omega,by go_num,rfl,by rw[E.out,m.out,Nat.pow_succ,Nat.div_div_eq_div_mul],by
    rw[iF,C.out,F.out,D.out,m.out];exact congrArg Value.string (ByteArray.ext (by simp)),e.alloc e.size _⟩
   case measure=>simp[intOf];omega
  ·obtain rfl:size=k:=by omega
   go_wp2_with fail;go_ret;exact⟨by rw[v.out];rfl,e⟩
theorem Ja (n size:Int)(a:0≤size)(b:size≤8)(w:World):
 Cr 73 #[n,size] w (.string (Oct.Bh n size)):=by
 obtain⟨k,rfl⟩:=Int.eq_ofNat_of_zero_le a;exact iG n k (by omega) w
theorem iH (len:Nat)(s:ByteArray)(a size:Nat)(_hl:len=s.size)(c:a+size≤s.size)(d:s.size≤281474976710656)(w:World):
 Cq 185 #[s,.int .i64 (a:Int),.int .i64 (size:Int)] w fun e w'=>e= .returned (.bool true)∧w=w':=by
 clear _hl;go_enter Tryz.func185,Tryz.ntmps185;go_wp2_with fail;go_ret;exact⟨congrArg (fun b=>Ending.returned (.bool b)) (decide_eq_true (by omega)),rfl⟩
theorem nB (s:ByteArray)(a size:Nat)(p:1≤size)(q:size≤8)(g:a+size≤s.size)(r:s.size≤281474976710656)(w:World):
 Cq 143 #[s,.int .i64 (a:Int),.int .i64 (size:Int)] w fun e w'=>e= .returned (.tuple #[.int .i64 (Oct.intOf (Oct.Dj s.data.toList a size)),true])∧w=w':=by
 obtain⟨t,j⟩:=ex (s.extract a (a+size):ByteArray);have c:t.data.toList=(s.data.toList.drop a).take size:=by rw[j];simp
 have d:t.size=size:=by rw[j,ByteArray.size_extract];omega
 have b:∀ k,k<size→a+k<s.size:=fun k h=>by omega
 have f:∀ k (h:k<size),(t.data[k]?.getD 0)=s[a+k]'(b k h):=by
  intro k h;have l:t.data.toList[k]? =s.data.toList[a+k]? :=by
   rw[c,List.getElem?_take_of_lt h,List.getElem?_drop]
  have m:t.data[k]? =s.data[a+k]? :=by simpa using l
  rw[m,Array.getElem?_eq_getElem (show a+k<s.data.size from by show a+k<s.size;omega)]
  rfl
 have u:=Hq f;have v:=Hq c;have o:=Hq d;clear j c d f;go_enter Tryz.func143,Tryz.ntmps143
 go_wp2_with(go_at_call 185;refine(iH _ s a size rfl g r _).mono ?_;rintro e w' ⟨rfl,rfl⟩)
 go_loop [8,9] (fun n i=>∃ k:Nat,k≤size∧i= .int .i64 k∧n= .int .u64 (V8 t k)) (fun _ i=>size-(intOf i).toNat)
 case atStart=>exact⟨0,Nat.zero_le _,rfl,rfl⟩
 case round=>
  obtain⟨k,hk,rfl,rfl⟩:=hrel
  by_cases b:k<size
  ·have x:=Hq (Us t k (by rw[o.out];exact b) (by omega))
   have y:=Hq (u.out k b);go_wp2_with fail
   go_round
   case rel=>exact⟨k+1,by omega,by go_num,by rw[← x.out,y.out]⟩
   case measure=>simp[intOf];omega
  ·obtain rfl:size=k:=by omega
   have z:=Hq (show wrap64 (V8 t size)=Oct.intOf (Oct.Dj s.data.toList a size) by
    have l:t.data.toList.take size=t.data.toList:=List.take_of_length_le (by have:=o.out;simp;omega);have m:Oct.N6 t.data.toList<18446744073709551616:=by
     have:=Oct.It t.data.toList;have A:256^t.data.toList.length≤256^8:=Nat.pow_le_pow_right (by omega) (by have:=o.out;simp;omega);omega
    rw[V8,l,Yb _ m,v.out];rfl)
   go_wp2_with fail;go_ret2;exact⟨by rw[← z.out];rfl,rfl⟩
theorem nC (n:Nat)(d:n<4294967296)(w:World):
 Cq 167 #[.int .u64 (n:Int)] w fun e w'=>e= .returned (.int .u64 (Oct.Q2 n:Int))∧w=w':=by
 have hand:bits .and .u64 (n:Int) 1=((n%2:Nat):Int):=by
  have h:=bits_and_u64_nat n 1 (by omega) (by omega);rw[Nat.and_one_is_mod]at h;exact h
 by_cases h:n%2=1
 ·rw[h]at hand
  have b:=bits_xor_u64_nat (n/2) 3988292384 (by omega) (by omega);have a:=Hq (show bits .xor .u64 ((n:Int)/2) 3988292384=(Oct.Q2 n:Int) by rw[Oct.Q2,if_pos h,← b];simp);clear b h;go_enter Tryz.func167,Tryz.ntmps167;go_wp2_with fail;go_ret;exact⟨by rw[← a.out];rfl,rfl⟩
 ·have c:n%2=0:=by omega
  rw[c]at hand;have a:=Hq (show(n:Int)/2=(Oct.Q2 n:Int) by rw[Oct.Q2,if_neg h];simp);clear h c;go_enter Tryz.func167,Tryz.ntmps167;go_wp2_with fail;go_ret;exact⟨by rw[← a.out];rfl,rfl⟩
theorem bO (n:Nat)(c:UInt8)(a:n<4294967296):bits .xor .u64 (n:Int) (IntKind.u64.wrap (c.toNat:Int))=((n ^^^ c.toNat:Nat):Int):=by
 have:=c.toNat_lt;rw[IntKind.wrap_u64,show(c.toNat:Int)%18446744073709551616=(c.toNat:Int) by omega,bits_xor_u64_nat _ _ (by omega) (by omega)]
theorem iI (n:Nat)(a:n<4294967296):wrap64 (bits .xor .u64 (n:Int) 4294967295)=((n ^^^ 4294967295:Nat):Int):=by
 have b:n ^^^ 4294967295<2^32:=Nat.xor_lt_two_pow a (by omega);have h:=bits_xor_u64_nat n 4294967295 (by omega) (by omega);rw[show(4294967295:Int)=((4294967295:Nat):Int)from rfl,h];exact IntWalk.wrap64_in _ ⟨by omega,by omega⟩
theorem Yd (s:ByteArray)(r:s.size≤281474976710656)(w:World):
 Cq 123 #[s] w fun e w'=>e= .returned (.int .i64 (Oct.Gr s.data.toList))∧w=w':=by
 go_enter Tryz.func123,Tryz.ntmps123;go_wp2_with fail
 go_loop [3,4] (fun n i=>∃ k:Nat,k≤s.size∧i= .int .i64 k∧n= .int .u64 (Oct.Ep 4294967295 (s.data.toList.take k))) (fun _ i=>s.size-(intOf i).toNat)
 case atStart=>exact⟨0,Nat.zero_le _,rfl,rfl⟩
 case round=>
  obtain⟨k,hk,rfl,rfl⟩:=hrel;have b:=Oct.N7 (s.data.toList.take k) (n:=4294967295) (by omega)
  by_cases c:k<s.size
  ·have g:=Hq (bO (Oct.Ep 4294967295 (s.data.toList.take k)) s[k] b)
   have a:Oct.Ep 4294967295 (s.data.toList.take k) ^^^ s[k].toNat<4294967296:=Nat.xor_lt_two_pow (n:=32) b (by have:=s[k].toNat_lt;omega);have h:=Hq (Yc s k c);go_wp2_with fail;rw[g.out];generalize f:Oct.Ep 4294967295 (s.data.toList.take k) ^^^ s[k].toNat=r0 at a ⊢;have l:=Hq f;clear f
   go_loop [3,5] (fun n i=>∃ j:Nat,j≤8∧i= .int .i64 j∧n= .int .u64 (Oct.Qc j r0)) (fun _ i=>8-(intOf i).toNat)
   case atStart=>exact⟨0,Nat.zero_le _,rfl,rfl⟩
   case round=>
    obtain⟨j,t,rfl,rfl⟩:=hrel;have m:=Oct.Ro j a
    by_cases o:j<8
    ·have d:=Hq (Oct.Rn j r0)
     go_wp2_with(go_at_call 167;refine(nC _ m _).mono ?_;rintro e w' ⟨rfl,rfl⟩)
     go_round
     case rel=>exact⟨j+1,by omega,by go_num,by rw[d.out]⟩
     case measure=>simp[intOf];omega
    ·obtain rfl:j=8:=by omega
     go_wp2_with fail
     go_round
     case rel=>exact⟨k+1,by omega,by go_num,by rw[h.out,Oct.Mv,l.out]⟩
     case measure=>simp[intOf];omega
  ·obtain rfl:k=s.size:=by omega
   have p:=Hq (iI _ b);have q:=Hq (show Oct.Ep 4294967295 (s.data.toList.take s.size) ^^^ 4294967295=Oct.Gr s.data.toList by rw[List.take_of_length_le (by simp)];rfl);go_wp2_with fail;go_ret;exact⟨by rw[← q.out,← p.out];rfl,rfl⟩
end Go.Proofs.YtmfkhdhnbkambaaGreatDoor
namespace Go.Proofs
open Go.Shelf
def Tryz.laysM171_ren:Go.Shelf.Ren:=⟨fun|171=>113|243=>155|246=>196|283=>238|284=>239|285=>240|286=>241|129=>225|317=>272|318=>273|319=>274|320=>275|337=>296|338=>297|n=>n,fun|3=>3|9=>9|2=>2|4=>4|171=>221|0=>0|53=>160|37=>112|5=>5|173=>223|212=>255|51=>218|20=>20|213=>256|46=>161|232=>280|233=>281|n=>n,fun|17=>0|18=>4|19=>5|n=>n⟩
theorem Tryz.laysM171:Go.Proofs.LaysM.n171 Tryz.prog Tryz.laysM171_ren:={
 mixed:=by kernel_rfl
 f129:=Tryz.func225.trans (congrArg some Kr)
 f171:=Tryz.func113.trans (congrArg some Kr)
 f243:=Tryz.func155.trans (congrArg some Kr)
 f246:=Tryz.func196.trans (congrArg some Kr)
 f283:=Tryz.func238.trans (congrArg some Kr)
 f284:=Tryz.func239.trans (congrArg some Kr)
 f285:=Tryz.func240.trans (congrArg some Kr)
 f286:=Tryz.func241.trans (congrArg some Kr)
 f317:=Tryz.func272.trans (congrArg some Kr)
 f318:=Tryz.func273.trans (congrArg some Kr)
 f319:=Tryz.func274.trans (congrArg some Kr)
 f320:=Tryz.func275.trans (congrArg some Kr)
 f337:=Tryz.func296.trans (congrArg some Kr)
 f338:=Tryz.func297.trans (congrArg some Kr)
 t0:=yO
 a0:=Tryz.isAgg0
 z0:=Tryz.sizeOf0
 v0:=Tryz.zeroValue0
 t2:=zE
 a2:=Tryz.isAgg2
 z2:=Tryz.sizeOf2
 v2:=Tryz.zeroValue2
 t3:=xZ
 a3:=Tryz.isAgg3
 z3:=Tryz.sizeOf3
 v3:=Tryz.zeroValue3
 t4:=yA
 a4:=Tryz.isAgg4
 z4:=Tryz.sizeOf4
 v4:=Tryz.zeroValue4
 t5:=mQ
 a5:=Tryz.isAgg5
 z5:=Tryz.sizeOf5
 v5:=Tryz.zeroValue5
 t9:=bM
 a9:=Tryz.isAgg9
 z9:=Tryz.sizeOf9
 v9:=Tryz.zeroValue9
 t20:=wF
 a20:=Tryz.isAgg20
 z20:=Tryz.sizeOf20
 v20:=Tryz.zeroValue20
 t37:=Hw
 a37:=Tryz.isAgg112
 z37:=Tryz.sizeOf112
 v37:=Tryz.zeroValue112
 t46:=uD
 a46:=Tryz.isAgg161
 z46:=Tryz.sizeOf161
 v46:=Tryz.zeroValue161
 t51:=uE
 a51:=Tryz.isAgg218
 z51:=Tryz.sizeOf218
 v51:=Tryz.zeroValue218
 t53:=nD
 a53:=Tryz.isAgg160
 z53:=Tryz.sizeOf160
 v53:=Tryz.zeroValue160
 t171:=wG
 a171:=Tryz.isAgg221
 z171:=Tryz.sizeOf221
 v171:=Tryz.zeroValue221
 t173:=wH
 a173:=Tryz.isAgg223
 z173:=Tryz.sizeOf223
 v173:=Tryz.zeroValue223
 t212:=uF
 a212:=Tryz.isAgg255
 z212:=Tryz.sizeOf255
 v212:=Tryz.zeroValue255
 t213:=wI
 a213:=Tryz.isAgg256
 z213:=Tryz.sizeOf256
 t232:=wJ
 a232:=Tryz.isAgg280
 z232:=Tryz.sizeOf280
 v232:=Tryz.zeroValue280
 t233:=wK
 a233:=Tryz.isAgg281
 z233:=Tryz.sizeOf281
 v233:=Tryz.zeroValue281
 g17:=by kernel_rfl
 g18:=by kernel_rfl
 g19:=by kernel_rfl
 i0:=by kernel_rfl
 i2:=by kernel_rfl
 i3:=by kernel_rfl
 i4:=by kernel_rfl
 i5:=by kernel_rfl
 i9:=by kernel_rfl
 i20:=by kernel_rfl
 i37:=by kernel_rfl
 i46:=by kernel_rfl
 i51:=by kernel_rfl
 i53:=by kernel_rfl
 i171:=by kernel_rfl
 i173:=by kernel_rfl
 i212:=by kernel_rfl
 i232:=by kernel_rfl
 i233:=by kernel_rfl
 m17:=by kernel_rfl
 m18:=by kernel_rfl
 m19:=by kernel_rfl}
def Tryz.laysC172_ren:Go.Shelf.Ren:=⟨fun|172=>203|244=>243|245=>244|247=>277|279=>278|280=>279|281=>280|282=>281|287=>298|316=>299|171=>113|205=>300|321=>304|322=>305|243=>155|246=>196|283=>238|284=>239|285=>240|286=>241|129=>225|317=>272|318=>273|319=>274|320=>275|337=>296|338=>297|n=>n,fun|9=>9|3=>3|75=>191|76=>192|4=>4|5=>5|167=>259|37=>112|0=>0|85=>260|2=>2|168=>262|53=>160|175=>273|46=>161|210=>276|127=>205|145=>285|143=>283|21=>21|171=>221|173=>223|212=>255|51=>218|20=>20|213=>256|232=>280|233=>281|80=>124|n=>n,fun|15=>1|16=>2|17=>0|18=>4|19=>5|n=>n⟩
theorem Tryz.laysC172:Go.Proofs.LaysC.n172 Tryz.prog Tryz.laysC172_ren:={
 mixed:=by kernel_rfl
 f129:=Tryz.func225.trans (congrArg some Kr)
 f171:=Tryz.func113.trans (congrArg some Kr)
 f172:=Tryz.func203.trans (congrArg some Kr)
 f205:=Tryz.func300.trans (congrArg some Kr)
 f243:=Tryz.func155.trans (congrArg some Kr)
 f244:=Tryz.func243.trans (congrArg some Kr)
 f245:=Tryz.func244.trans (congrArg some Kr)
 f246:=Tryz.func196.trans (congrArg some Kr)
 f247:=Tryz.func277.trans (congrArg some Kr)
 f279:=Tryz.func278.trans (congrArg some Kr)
 f280:=Tryz.func279.trans (congrArg some Kr)
 f281:=Tryz.func280.trans (congrArg some Kr)
 f282:=Tryz.func281.trans (congrArg some Kr)
 f283:=Tryz.func238.trans (congrArg some Kr)
 f284:=Tryz.func239.trans (congrArg some Kr)
 f285:=Tryz.func240.trans (congrArg some Kr)
 f286:=Tryz.func241.trans (congrArg some Kr)
 f287:=Tryz.func298.trans (congrArg some Kr)
 f316:=Tryz.func299.trans (congrArg some Kr)
 f317:=Tryz.func272.trans (congrArg some Kr)
 f318:=Tryz.func273.trans (congrArg some Kr)
 f319:=Tryz.func274.trans (congrArg some Kr)
 f320:=Tryz.func275.trans (congrArg some Kr)
 f321:=Tryz.func304.trans (congrArg some Kr)
 f322:=Tryz.func305.trans (congrArg some Kr)
 f337:=Tryz.func296.trans (congrArg some Kr)
 f338:=Tryz.func297.trans (congrArg some Kr)
 t0:=yO
 a0:=Tryz.isAgg0
 z0:=Tryz.sizeOf0
 v0:=Tryz.zeroValue0
 t2:=zE
 a2:=Tryz.isAgg2
 z2:=Tryz.sizeOf2
 v2:=Tryz.zeroValue2
 t3:=xZ
 a3:=Tryz.isAgg3
 z3:=Tryz.sizeOf3
 v3:=Tryz.zeroValue3
 t4:=yA
 a4:=Tryz.isAgg4
 z4:=Tryz.sizeOf4
 v4:=Tryz.zeroValue4
 t5:=mQ
 a5:=Tryz.isAgg5
 z5:=Tryz.sizeOf5
 v5:=Tryz.zeroValue5
 t9:=bM
 a9:=Tryz.isAgg9
 z9:=Tryz.sizeOf9
 v9:=Tryz.zeroValue9
 t20:=wF
 a20:=Tryz.isAgg20
 z20:=Tryz.sizeOf20
 v20:=Tryz.zeroValue20
 t21:=zF
 a21:=Tryz.isAgg21
 z21:=Tryz.sizeOf21
 v21:=Tryz.zeroValue21
 t37:=Hw
 a37:=Tryz.isAgg112
 z37:=Tryz.sizeOf112
 v37:=Tryz.zeroValue112
 t46:=uD
 a46:=Tryz.isAgg161
 z46:=Tryz.sizeOf161
 v46:=Tryz.zeroValue161
 t51:=uE
 a51:=Tryz.isAgg218
 z51:=Tryz.sizeOf218
 v51:=Tryz.zeroValue218
 t53:=nD
 a53:=Tryz.isAgg160
 z53:=Tryz.sizeOf160
 v53:=Tryz.zeroValue160
 t75:=nE
 a75:=Tryz.isAgg191
 z75:=Tryz.sizeOf191
 v75:=Tryz.zeroValue191
 t76:=wL
 a76:=Tryz.isAgg192
 z76:=Tryz.sizeOf192
 v76:=Tryz.zeroValue192
 t85:=yP
 a85:=Tryz.isAgg260
 z85:=Tryz.sizeOf260
 v85:=Tryz.zeroValue260
 t127:=wM
 a127:=Tryz.isAgg205
 z127:=Tryz.sizeOf205
 v127:=Tryz.zeroValue205
 t143:=uG
 a143:=Tryz.isAgg283
 z143:=Tryz.sizeOf283
 v143:=Tryz.zeroValue283
 t145:=uH
 a145:=Tryz.isAgg285
 z145:=Tryz.sizeOf285
 v145:=Tryz.zeroValue285
 t167:=yQ
 a167:=Tryz.isAgg259
 z167:=Tryz.sizeOf259
 v167:=Tryz.zeroValue259
 t168:=yR
 a168:=Tryz.isAgg262
 z168:=Tryz.sizeOf262
 v168:=Tryz.zeroValue262
 t171:=wG
 a171:=Tryz.isAgg221
 z171:=Tryz.sizeOf221
 v171:=Tryz.zeroValue221
 t173:=wH
 a173:=Tryz.isAgg223
 z173:=Tryz.sizeOf223
 v173:=Tryz.zeroValue223
 t175:=yS
 a175:=Tryz.isAgg273
 z175:=Tryz.sizeOf273
 v175:=Tryz.zeroValue273
 t210:=yT
 a210:=Tryz.isAgg276
 z210:=Tryz.sizeOf276
 v210:=Tryz.zeroValue276
 t212:=uF
 a212:=Tryz.isAgg255
 z212:=Tryz.sizeOf255
 v212:=Tryz.zeroValue255
 t213:=wI
 a213:=Tryz.isAgg256
 z213:=Tryz.sizeOf256
 t232:=wJ
 a232:=Tryz.isAgg280
 z232:=Tryz.sizeOf280
 v232:=Tryz.zeroValue280
 t233:=wK
 a233:=Tryz.isAgg281
 z233:=Tryz.sizeOf281
 v233:=Tryz.zeroValue281
 g15:=by kernel_rfl
 g16:=by kernel_rfl
 g17:=by kernel_rfl
 g18:=by kernel_rfl
 g19:=by kernel_rfl
 t80:=yU
 a80:=Tryz.isAgg124
 z80:=Tryz.sizeOf124
 v80:=Tryz.zeroValue124
 i0:=by kernel_rfl
 i2:=by kernel_rfl
 i3:=by kernel_rfl
 i4:=by kernel_rfl
 i5:=by kernel_rfl
 i9:=by kernel_rfl
 i20:=by kernel_rfl
 i21:=by kernel_rfl
 i37:=by kernel_rfl
 i46:=by kernel_rfl
 i51:=by kernel_rfl
 i53:=by kernel_rfl
 i75:=by kernel_rfl
 i76:=by kernel_rfl
 i80:=by kernel_rfl
 i85:=by kernel_rfl
 i127:=by kernel_rfl
 i143:=by kernel_rfl
 i145:=by kernel_rfl
 i167:=by kernel_rfl
 i168:=by kernel_rfl
 i171:=by kernel_rfl
 i173:=by kernel_rfl
 i175:=by kernel_rfl
 i210:=by kernel_rfl
 i212:=by kernel_rfl
 i232:=by kernel_rfl
 i233:=by kernel_rfl
 m15:=by kernel_rfl
 m16:=by kernel_rfl
 m17:=by kernel_rfl
 m18:=by kernel_rfl
 m19:=by kernel_rfl
 c0:=by kernel_rfl
 c2:=by kernel_rfl
 c3:=by kernel_rfl
 c4:=by kernel_rfl
 c5:=by kernel_rfl
 c9:=by kernel_rfl
 c20:=by kernel_rfl
 c21:=by kernel_rfl
 c37:=by kernel_rfl
 c46:=by kernel_rfl
 c51:=by kernel_rfl
 c53:=by kernel_rfl
 c75:=by kernel_rfl
 c76:=by kernel_rfl
 c80:=by kernel_rfl
 c85:=by kernel_rfl
 c127:=by kernel_rfl
 c143:=by kernel_rfl
 c145:=by kernel_rfl
 c167:=by kernel_rfl
 c168:=by kernel_rfl
 c171:=by kernel_rfl
 c173:=by kernel_rfl
 c175:=by kernel_rfl
 c210:=by kernel_rfl
 c212:=by kernel_rfl
 c213:=by kernel_rfl
 c232:=by kernel_rfl
 c233:=by kernel_rfl}
def Tryz.lays105_ren:Go.Shelf.Ren:=⟨fun|105=>177|212=>209|99=>210|165=>211|166=>175|170=>212|169=>176|263=>259|264=>260|206=>261|240=>208|241=>262|276=>258|277=>289|n=>n,fun|9=>9|3=>3|4=>4|20=>20|0=>0|46=>161|109=>206|5=>5|72=>189|76=>192|51=>218|146=>243|53=>160|148=>245|70=>187|37=>112|75=>191|127=>205|164=>241|80=>124|n=>n,fun|n=>n⟩
theorem Tryz.lays105:Go.Proofs.Lays.n105 Tryz.prog Tryz.lays105_ren:={
 mixed:=by kernel_rfl
 f99:=Tryz.func210.trans (congrArg some Kr)
 f105:=Tryz.func177.trans (congrArg some Kr)
 f165:=Tryz.func211.trans (congrArg some Kr)
 f166:=Tryz.func175.trans (congrArg some Kr)
 f169:=Tryz.func176.trans (congrArg some Kr)
 f170:=Tryz.func212.trans (congrArg some Kr)
 f206:=Tryz.func261.trans (congrArg some Kr)
 f212:=Tryz.func209.trans (congrArg some Kr)
 f240:=Tryz.func208.trans (congrArg some Kr)
 f241:=Tryz.func262.trans (congrArg some Kr)
 f263:=Tryz.func259.trans (congrArg some Kr)
 f264:=Tryz.func260.trans (congrArg some Kr)
 f276:=Tryz.func258.trans (congrArg some Kr)
 f277:=Tryz.func289.trans (congrArg some Kr)
 t0:=yO
 a0:=Tryz.isAgg0
 z0:=Tryz.sizeOf0
 v0:=Tryz.zeroValue0
 t3:=xZ
 a3:=Tryz.isAgg3
 z3:=Tryz.sizeOf3
 v3:=Tryz.zeroValue3
 t4:=yA
 a4:=Tryz.isAgg4
 z4:=Tryz.sizeOf4
 v4:=Tryz.zeroValue4
 t5:=mQ
 a5:=Tryz.isAgg5
 z5:=Tryz.sizeOf5
 v5:=Tryz.zeroValue5
 t9:=bM
 a9:=Tryz.isAgg9
 z9:=Tryz.sizeOf9
 v9:=Tryz.zeroValue9
 t20:=wF
 a20:=Tryz.isAgg20
 z20:=Tryz.sizeOf20
 v20:=Tryz.zeroValue20
 t37:=Hw
 a37:=Tryz.isAgg112
 z37:=Tryz.sizeOf112
 v37:=Tryz.zeroValue112
 t46:=uD
 a46:=Tryz.isAgg161
 z46:=Tryz.sizeOf161
 v46:=Tryz.zeroValue161
 t51:=uE
 a51:=Tryz.isAgg218
 z51:=Tryz.sizeOf218
 v51:=Tryz.zeroValue218
 t53:=nD
 a53:=Tryz.isAgg160
 z53:=Tryz.sizeOf160
 v53:=Tryz.zeroValue160
 t70:=uI
 a70:=Tryz.isAgg187
 z70:=Tryz.sizeOf187
 v70:=Tryz.zeroValue187
 t72:=yV
 a72:=Tryz.isAgg189
 z72:=Tryz.sizeOf189
 v72:=Tryz.zeroValue189
 t75:=nE
 a75:=Tryz.isAgg191
 z75:=Tryz.sizeOf191
 v75:=Tryz.zeroValue191
 t76:=wL
 a76:=Tryz.isAgg192
 z76:=Tryz.sizeOf192
 v76:=Tryz.zeroValue192
 t109:=yW
 a109:=Tryz.isAgg206
 z109:=Tryz.sizeOf206
 v109:=Tryz.zeroValue206
 t127:=wM
 a127:=Tryz.isAgg205
 z127:=Tryz.sizeOf205
 v127:=Tryz.zeroValue205
 t146:=yX
 a146:=Tryz.isAgg243
 z146:=Tryz.sizeOf243
 v146:=Tryz.zeroValue243
 t148:=yY
 a148:=Tryz.isAgg245
 z148:=Tryz.sizeOf245
 v148:=Tryz.zeroValue245
 t164:=uJ
 a164:=Tryz.isAgg241
 z164:=Tryz.sizeOf241
 v164:=Tryz.zeroValue241}
theorem Tryz.Builder_Extra_105:Builder.Extra Tryz.prog Tryz.lays105_ren:={
 sizeBuilder:=by kernel_rfl
 liesBuilder:=by kernel_rfl
 t5:=mQ
 a5:=Tryz.isAgg5
 z5:=Tryz.sizeOf5
 v5:=Tryz.zeroValue5
 infoByte:=by kernel_rfl
 cellsByte:=by kernel_rfl
 sizeByte:=by kernel_rfl
 neB5:=by decide}
open Go.RowKit Go.Lib in
theorem Tryz.strings_Repeat (s:ByteArray)(c:Nat)(w:World)(a:c≤9223372036854775807)(hlen:s.size*c≤140737488355328):
 Cr 177 #[s,c] w (.string ⟨(Lib.repeatL s.data.toList c).toArray⟩):=Any.strings_Repeat Tryz.lays105 Tryz.Builder_Extra_105 s c w a hlen
def Tryz.laysNm216_ren:Go.Shelf.Ren:=⟨fun|16=>214|n=>n,fun|24=>26|9=>9|4=>4|n=>n,fun|n=>n⟩
theorem Tryz.laysNm216:Go.Proofs.Lays2.n16 Tryz.prog Tryz.laysNm216_ren:={
 mixed:=by kernel_rfl
 f16:=Tryz.func214.trans (congrArg some Kr)
 t4:=yA
 a4:=Tryz.isAgg4
 z4:=Tryz.sizeOf4
 v4:=Tryz.zeroValue4
 t9:=bM
 a9:=Tryz.isAgg9
 z9:=Tryz.sizeOf9
 v9:=Tryz.zeroValue9
 t24:=V9
 a24:=Tryz.isAgg26
 z24:=Tryz.sizeOf26
 v24:=Tryz.zeroValue26
 i9:=by kernel_rfl}
open Go.RowKit Go.Lib in
theorem Tryz.slices_Clone_string (b off n c:Nat)(a:List ByteArray)(w:World)(f:n≤a.length)(d:n*16≤140737488355328)(g:∀ j,j<a.length→w.cell? ⟨b,off+j,none⟩=some (.string (a.getD j ByteArray.empty))):
 Cq 214 #[.slice (some ⟨b,off,none⟩) n c] w fun e w'=>∃ v',e= .returned v'∧w'.ownsRow w.heap.size 9 1 v' n ((a.take n).map (Value.string))∧v'≠ .slice none 0 0∧Bw w w':=Any.slices_Clone_string Tryz.laysNm216 b off n c a w f d g
end Go.Proofs
namespace Go.Proofs.YtmfkhdhnbkambaaGreatDoor
open Go.RowKit
def Om (B H b:Nat)(l:List UInt8)(w:World):Prop:=
 b<B∧∃ p v,w.heap[b]? =some (.cells #[p,v] 189 (0,0))∧(p= .pointer none∨p= .pointer (some ⟨b,0,none⟩))∧w.ownsRow B 5 1 v l.length (Lib.byteCells l)∧(∀ g,v.ownBlock=some g→g<H)
structure Er (B b:Nat) (w w':World):Prop where
 os:w'.os=w.os
 tape:w'.tape=w.tape
 output:w'.output=w.output
 size:w.heap.size≤w'.heap.size
 block:∀ k,k<B→k≠b→w'.heap[k]? =w.heap[k]?
theorem Er.refl (B b:Nat)(w:World):Er B b w w:=⟨rfl,rfl,rfl,Nat.le_refl _,fun _ _ _=>rfl⟩
theorem Er.trans {B b:Nat}{u v w:World}(h:Er B b u v)(k:Er B b v w):Er B b u w:=
 ⟨k.os.trans h.os,k.tape.trans h.tape,k.output.trans h.output,Nat.le_trans h.size k.size,fun i a c=>(k.block i a c).trans (h.block i a c)⟩
theorem Er.Es {B b:Nat}{u v:World}(a:B≤u.heap.size)(h:Bw u v):Er B b u v:=
 ⟨h.os,h.tape,h.output,h.size,fun i c _=>h.block i (by omega)⟩
theorem Er.below {B b lo:Nat}{u v:World}(h:Er B b u v)(a:lo≤B)(c:lo≤b):Below lo u v:=
 ⟨h.os,h.tape,h.output,h.size,fun i d=>h.block i (by omega) (by omega)⟩
theorem Q3 (b:Nat)(w:World)(d:w.cell? ⟨b,0,none⟩=some (.pointer none))(a:w.shape? b=some (189,2))(c:w.frozen? ⟨b,0,none⟩=false):
 Cq 208 #[.pointer (some ⟨b,0,none⟩)] w fun e w'=>e= .returned (.tuple #[])∧w'=w.setCell ⟨b,0,none⟩ (.pointer (some ⟨b,0,none⟩)):=
 Any.Builder_copyCheck_fresh (ρ:=Tryz.lays105_ren) {Tryz.lays105 with} Tryz.Builder_Extra_105.toX72 b w d a c
theorem L0 (b:Nat)(w:World)(a:w.cell? ⟨b,0,none⟩=some (.pointer (some ⟨b,0,none⟩))):
 Cq 208 #[.pointer (some ⟨b,0,none⟩)] w fun e w'=>e= .returned (.tuple #[])∧w'=w:=
 Any.Builder_copyCheck_used (ρ:=Tryz.lays105_ren) {Tryz.lays105 with} Tryz.Builder_Extra_105.toX72 b w a
theorem Bs {w:World}{g:Nat}{cs:Array Value}{t:TypeId}{fr:Nat×Nat}(h:w.heap[g]? =some (.cells cs t fr))(i:Nat):w.cell? ⟨g,i,none⟩=cs[i]? :=by simp[World.cell?,h]
theorem heap_set (w:World)(b i:Nat)(p v u:Value)(T:TypeId)(h:w.heap[b]? =some (.cells #[p,v] T (0,0))):(w.setCell ⟨b,i,none⟩ u).heap[b]? =some (.cells (#[p,v].setIfInBounds i u) T (0,0)):=by
 simp[World.setCell,Array.getElem?_modify,h]
theorem nF {B H b:Nat}{l:List UInt8}{w:World}(h:Om B H b l w):b<w.heap.size:=by
 obtain⟨_,p,v,a,_⟩:=h;rcases Nat.lt_or_ge b w.heap.size with h'|h'
 ·exact h'
 ·rw[Array.getElem?_eq_none h']at a;cases a
theorem Q9 {w:World}{B b i:Nat}{v u:Value}{n:Nat}{xs:List Value}(a:b<B)(h:w.ownsRow B 5 1 v n xs):(w.setCell ⟨b,i,none⟩ u).ownsRow B 5 1 v n xs:=by
 refine⟨h.1,?_⟩;rcases h.2 with c|⟨g,cap,cur,d,e,f,r⟩
 ·exact .inl c
 ·exact .inr ⟨g,cap,cur,d,e,by rw[Below.heap_setCell _ _ _ _ (by show g≠b;omega)];exact f,r⟩
theorem Ug (B H b:Nat)(l:List UInt8)(w:World)(h:Om B H b l w):
 Cq 208 #[.pointer (some ⟨b,0,none⟩)] w fun e w'=>e= .returned (.tuple #[])∧
  (b<B∧∃ v,w'.heap[b]? =some (.cells #[.pointer (some ⟨b,0,none⟩),v] 189 (0,0))∧w'.ownsRow B 5 1 v l.length (Lib.byteCells l)∧(∀ g,v.ownBlock=some g→g<H))∧Er B b w w'∧w'.heap.size=w.heap.size:=by
 obtain⟨c,p,v,d,i,a,f⟩:=h;rcases i with rfl|rfl
 ·refine(Q3 b w (by rw[Bs d];rfl) (by simp[World.shape?,d]) (by simp[World.frozen?,d])).mono ?_
  rintro e w' ⟨rfl,rfl⟩;refine⟨rfl,⟨c,v,heap_set w b 0 _ _ _ _ d,Q9 c a,f⟩,⟨rfl,rfl,rfl,by simp[World.setCell],fun k _ hk=>Below.heap_setCell _ _ _ _ hk⟩,by simp[World.setCell]⟩
 ·refine(L0 b w (by rw[Bs d];rfl)).mono ?_
  rintro e w' ⟨rfl,rfl⟩;exact⟨rfl,⟨c,v,d,a,f⟩,⟨rfl,rfl,rfl,Nat.le_refl _,fun _ _ _=>rfl⟩,rfl⟩
theorem Rq:Tryz.prog.cellsOf 5=1:=by kernel_rfl
theorem Pj:(Tryz.prog.info? 5).map (fun i=>(i.zero,i.size,i.bytes))=some (some (.int .u8 0),1,1):=by kernel_rfl
theorem Mw (B H b:Nat)(l:List UInt8)(s:ByteArray)(w:World)(h:Om B H b l w)(hlen:l.length+s.size≤140737488355328)(G:B≤w.heap.size):
 Cq 175 #[.pointer (some ⟨b,0,none⟩),s] w fun e w'=>e= .returned (.tuple #[s.size,.nilIface])∧Om B w'.heap.size b (l++s.data.toList) w'∧Er B b w w':=by
 obtain⟨i0,I,q,r,t⟩:=info_parts Pj;have J:=Hq (Ug B H b l w h);clear h;go_enter Tryz.func175,Tryz.ntmps175
 go_wp2_with(go_at_call 208;refine J.out.mono ?_)
 rintro e x ⟨rfl,⟨n,v,f,d,F⟩,j,K⟩;have M:x.cell? ⟨b,1,none⟩=some v:=by rw[Bs f];rfl
 go_wp2_with(at_builtin;refine Lib.wpList_append_own_string _ rfl _ _ 112 9 rfl B 5 i0 Hw bM I q r t _ _ _ rfl d s rfl ?c3 ?c4 ?c5 ?_)
 case c3=>unfold maxLen;omega
 case c4=>omega
 case c5=>omega
 intro L p c a _;have y:b<x.heap.size:=by
  rcases Nat.lt_or_ge b x.heap.size with h'|h'
  ·exact h'
  ·rw[Array.getElem?_eq_none h']at f;cases f
 have z:v.ownBlock≠some b:=fun e=>by
  have:=(d.lt b e).1;omega
 have m:p.heap[b]? =some (.cells #[.pointer (some ⟨b,0,none⟩),v] 189 (0,0)):=by
  rw[a.block b y (fun e=>z e.symm)];exact f
 have d1:p.cell? ⟨b,1,none⟩=some v:=by rw[Bs m];rfl
 have f1:p.frozen? ⟨b,1,none⟩=false:=by simp[World.frozen?,m]
 obtain⟨A,C,cap,rfl⟩:∃ A C cap,L= .slice A C cap:=by
  rcases c.2 with⟨D,_⟩|⟨g,cap,cur,D,_⟩
  ·exact⟨_,_,_,D⟩
  ·exact⟨_,_,_,D⟩
 go_wp2_with fail;go_ret2;refine⟨rfl,?_,?_⟩
 ·have E:Lib.byteCells (l++s.data.toList)=Lib.byteCells l++Lib.strCells s:=by
   simp[Lib.byteCells,Lib.strCells]
  refine⟨n,_,_,heap_set p b 1 _ _ _ _ m,.inr rfl,?_,fun g F=>?_⟩
  ·have:=Q9 (i:=1) (u:=.slice A C cap) n c
   rw[E,List.length_append,show s.data.toList.length=s.size by simp];exact this
  ·have:=(c.lt g F).2
   simpa[World.setCell]using this
 ·refine⟨a.os.trans j.os,a.tape.trans j.tape,a.output.trans j.output,?_,fun k hk o=>?_⟩
  ·have:=a.size
   simp[World.setCell];omega
  ·rw[Below.heap_setCell _ _ _ _ o,a.block k (by omega) (fun e=>by have:=(d.lt k e.symm).1;omega),j.block k hk o]
structure L5 (B H:Nat) (w w':World):Prop where
 os:w'.os=w.os
 tape:w'.tape=w.tape
 output:w'.output=w.output
 size:w.heap.size≤w'.heap.size
 block:∀ k,k<w.heap.size→(k<B∨H≤k)→w'.heap[k]? =w.heap[k]?
theorem L5.freeze (B H g n:Nat)(w:World)(i:B≤g)(j:g<H):L5 B H w (w.drew.freeze ⟨g,0,none⟩ n):=by
 have a:∀ W:World,(W.freeze ⟨g,0,none⟩ n).os=W.os∧(W.freeze ⟨g,0,none⟩ n).tape=W.tape∧(W.freeze ⟨g,0,none⟩ n).output=W.output∧(W.freeze ⟨g,0,none⟩ n).heap.size=W.heap.size∧∀ k,k≠g→(W.freeze ⟨g,0,none⟩ n).heap[k]? =W.heap[k]? :=by
  intro W;unfold World.freeze
  split
  ·exact⟨rfl,rfl,rfl,rfl,fun _ _=>rfl⟩
  ·refine⟨rfl,rfl,rfl,by simp,fun k hk=>?_⟩
   simp only[Array.getElem?_modify];rw[if_neg (fun e=>hk e.symm)]
 obtain⟨b,c,d,f,h⟩:=a w.drew;exact⟨b,c,d,by rw[f];exact Nat.le_refl _,fun k _ hk=>h k (by omega)⟩
theorem Ye:Tryz.prog.underlying 205=some (.pointer 5):=by kernel_rfl
theorem Yf (B H b:Nat)(l:List UInt8)(w:World)(h:Om B H b l w)(k:l≠[]):
 Cq 176 #[.pointer (some ⟨b,0,none⟩)] w fun e w'=>e= .returned (.string ⟨l.toArray⟩)∧L5 B H w w':=by
 obtain⟨y,p,v,d,G,a,u⟩:=h;have m:l.length≠0:=by simpa using k
 obtain⟨g,cap,cur,rfl,n,f,o,i,q,c⟩:∃ g cap cur,v= .slice (some ⟨g,0,none⟩) l.length cap∧B≤g∧w.heap[g]? =some (.cells cur 5 (0,0))∧l.length≤cap∧cap≤maxLen∧cur.size=cap*1∧cur.toList.take (l.length*1)=Lib.byteCells l:=by
  rcases a.2 with⟨_,z⟩|⟨g,cap,cur,A,r⟩
  ·exact absurd z m
  ·exact⟨g,cap,cur,A,r⟩
 have s:g<H:=u g rfl;have I:w.drew.cell? ⟨b,1,none⟩=some (.slice (some ⟨g,0,none⟩) l.length cap):=by
  have:w.drew.heap[b]? =some (.cells #[p,.slice (some ⟨g,0,none⟩) l.length cap] 189 (0,0)):=d;rw[Bs this];rfl
 have C:(Builtin.unsafeSliceData_ #[112] 205 #[.slice (some ⟨g,0,none⟩) l.length cap]).run Tryz.prog w.drew= .ok (.pointer (some ⟨g,0,none⟩)) w.drew:=
  Lib.run_unsafeSliceData_row _ _ _ _ _ _ (by omega)
 have D:(Builtin.unsafeString_ #[205,3] 9 #[.pointer (some ⟨g,0,none⟩),l.length]).run Tryz.prog w.drew= .ok (.string ⟨l.toArray⟩) (w.drew.freeze ⟨g,0,none⟩ l.length):=by
  refine Lib.run_unsafeString_row w.drew 205 3 9 5 Ye Rq g cur.size (by have t:w.drew.heap[g]? =some (.cells cur 5 (0,0)):=f;simp[World.shape?,t]) l k (by omega) (by unfold maxLen at i;omega) ?_;intro j x E;have:=a.cells (g:=g) rfl j (.int .u8 x.toNat) (by simp[Lib.byteCells,E]);exact this
 have F:=L5.freeze B H g l.length w n s;clear a d c q i o f u k;go_enter Tryz.func176,Tryz.ntmps176
 go_wp2
 go_region
 all_goals (go_wp2;go_ret;exact⟨rfl,F⟩)
theorem N8 (B H b:Nat)(l:List UInt8)(w:World)(h:Om B H b l w):
 Cq 176 #[.pointer (some ⟨b,0,none⟩)] w fun e w'=>e= .returned (.string ⟨l.toArray⟩)∧L5 B H w w':=by
 by_cases i:l=[]
 ·subst i
  obtain⟨m,p,v,a,o,c,q⟩:=h;have key:Cr 176 #[.pointer (some ⟨b,0,none⟩)] w (.string ⟨#[]⟩):=by
   rcases c.2 with⟨rfl,_⟩|⟨g,cap,cur,rfl,_,f,_,_,n,_⟩
   ·exact Any.Builder_String_nil (ρ:=Tryz.lays105_ren) {Tryz.lays105 with} Tryz.Builder_Extra_105 w.heap.size b p w a
   ·by_cases j:cap=0
    ·subst j
     exact Any.Builder_String_noroom (ρ:=Tryz.lays105_ren) {Tryz.lays105 with} Tryz.Builder_Extra_105 w.heap.size b g p cur w (Nat.le_refl _) a f
    ·exact Any.Builder_String_room (ρ:=Tryz.lays105_ren) {Tryz.lays105 with} Tryz.Builder_Extra_105 w.heap.size b g cap p w j a
  refine key.mono ?_;rintro e w' ⟨rfl,d⟩;exact⟨rfl,d.os,d.tape,d.output,d.size,fun k hk _=>d.block k hk⟩
 ·exact Yf B H b l w h i
theorem Om.fresh (B H b:Nat)(w:World)(a:b<B)(h:w.heap[b]? =some (.cells #[.pointer none,"s"] 189 (0,0))):Om B H b [] w:=
 ⟨a,_,_,h,.inl rfl,⟨rfl,.inl ⟨rfl,rfl⟩⟩,fun g c=>by simp[Value.ownBlock]at c⟩
theorem Om.kept {B H b:Nat}{l:List UInt8}{w w':World}(h:Om B H b l w)(hk:∀ k,k<w.heap.size→(k=b∨(B≤k∧k<H))→w'.heap[k]? =w.heap[k]?):Om B H b l w':=by
 have e:=nF h;obtain⟨f,p,v,m,n,a,j⟩:=h;refine⟨f,p,v,by rw[hk b e (.inl rfl)];exact m,n,⟨a.1,?_⟩,j⟩;rcases a.2 with o|⟨g,cap,cur,rfl,d,c,r⟩
 ·exact .inl o
 ·have i:g<w.heap.size:=by
   rcases Nat.lt_or_ge g w.heap.size with h'|h'
   ·exact h'
   ·rw[Array.getElem?_eq_none h']at c;cases c
  exact .inr ⟨g,cap,cur,rfl,d,by rw[hk g i (.inr ⟨d,j g rfl⟩)];exact c,r⟩
theorem Om.below {B H b:Nat}{l:List UInt8}{w w':World}(h:Om B H b l w)(a:Bw w w'):Om B H b l w':=
 h.kept fun k hk _=>a.block k hk
theorem L5.below {B H lo:Nat}{w w':World}(h:L5 B H w w')(a:lo≤B)(b:lo≤w.heap.size):Below lo w w':=
 ⟨h.os,h.tape,h.output,h.size,fun k hk=>h.block k (by omega) (.inl (by omega))⟩
theorem Om.later {B H e b:Nat}{l:List UInt8}{w:World}(h:Om B H b l w)(f:H≤e):Om B e b l w:=by
 obtain⟨c,p,v,i,j,a,k⟩:=h;exact⟨c,p,v,i,j,a,fun g d=>Nat.lt_of_lt_of_le (k g d) f⟩
end Go.Proofs.YtmfkhdhnbkambaaGreatDoor
namespace Go.Proofs
open Go.Shelf
open Go.RowKit Go.Sort Go.Lib in
theorem Tryz.strconv_Itoa (n:Int)(b: -9223372036854775808≤n)(c:n≤9223372036854775807)(w:World)(a:Lib.TabIs Tryz.prog w "internal/strconv.uint64pow10" .u64 Lib.pow10Tab):
 Cq 113 #[n] w fun e w'=>e= .returned (.string ⟨(Lib.itoa n).toArray⟩)∧∃ k os,w'=grow (w.drewN k) os:=Any.strconv_Itoa Tryz.laysM171 n b c w a
open Go.RowKit in
theorem Tryz.strconv_Atoi_ok (s:ByteArray)(a:s.size≤9223372036854775806)(v:Int)(h:Lib.atoiAll s.data.toList= .ok v)(w:World):
 Cq 203 #[s] w fun e w'=>e= .returned (.tuple #[v,.nilIface])∧(w'=w∨∃ t,w'=Lib.bytesWorld w 5 t):=Any.strconv_Atoi_ok Tryz.laysC172 s a v h w
end Go.Proofs
namespace Go.Proofs.YtmfkhdhnbkambaaGreatDoor
open Go.RowKit
theorem Ag {a b c:World}(h:Bw a b)(k:Bw b c):Bw a c:=h.trans (k.mono h.size)
theorem Ej (w:World)(n:Nat):Bw w (w.drewN n):=⟨rfl,rfl,rfl,Nat.le_refl _,fun _ _=>rfl⟩
theorem Aj {w w':World}{o:Obj}(a:Bw w w'):Bw w (w'.alloc o):=a.alloc a.size o
theorem Ac (w:World)(o:Obj):Bw w (w.alloc o):=Aj (Below.refl _ _)
theorem Bt {w:World}{g:Nat}{o:Obj}(h:w.heap[g]? =some o):g<w.heap.size:=(Array.getElem?_eq_some_iff.1 h).1
theorem Bv {w w':World}{o:Obj}(a:Below (w.alloc o).heap.size (w.alloc o) w'):w'.heap[w.heap.size]? =some o:=
 (a.block _ (by simp)).trans (heap_alloc_new w _)
theorem Af {w w':World}{b:Nat}{o:Obj}(h:w.heap[b]? =some o)(a:Bw w w'):w'.heap[b]? =some o:=by
 rw[a.block b (Bt h)];exact h
theorem Et {w w':World}{b:Nat}{o a:Obj}(h:w.heap[b]? =some o)(d:Below (w.alloc a).heap.size (w.alloc a) w'):w'.heap[b]? =some o:=by
 have c:=Bt h;rw[d.block b (by simp;omega),Below.heap_alloc w a b c];exact h
theorem Cp {w:World}{b:Nat}(i:Nat){cs:Array Value}{T:TypeId}{fr:Nat×Nat}(h:w.heap[b]? =some (.cells cs T fr))(v:Value):(w.setCell ⟨b,i,none⟩ v).heap[b]? =some (.cells (cs.setIfInBounds i v) T fr):=by
 rw[setCell_eq_setRow w b i cs T fr v h];exact setRow_heap w b _ _ T _ h
theorem Aa {w:World}{g:Nat}{cs:Array Value}{t:TypeId}{fr:Nat×Nat}(h:w.heap[g]? =some (.cells cs t fr))(i:Nat):w.cell? ⟨g,i,none⟩=cs[i]? :=by simp[World.cell?,h]
theorem Ap {w:World}{g:Nat}{cs:Array Value}{t:TypeId}(h:w.heap[g]? =some (.cells cs t (0,0)))(i:Nat):w.frozen? ⟨g,i,none⟩=false:=by simp[World.frozen?,h]
theorem Bg {w w':World}{B:Nat}{e:TypeId}{size n:Nat}{v:Value}{xs:List Value}(h:w.ownsRow B e size v n xs)(a:Bw w w'):w'.ownsRow B e size v n xs:=by
 refine⟨h.1,?_⟩;rcases h.2 with b|⟨g,cap,cur,c,d,f,r⟩
 ·exact .inl b
 ·exact .inr ⟨g,cap,cur,c,d,Af f a,r⟩
theorem J9 {w:World}{B:Nat}{e:TypeId}{size n:Nat}{v:Value}{xs:List Value}(h:w.ownsRow B e size v n xs)(a:Addr)(u:Value)(i:a.block<B):(w.setCell a u).ownsRow B e size v n xs:=by
 refine⟨h.1,?_⟩;rcases h.2 with b|⟨g,cap,cur,c,d,f,r⟩
 ·exact .inl b
 ·exact .inr ⟨g,cap,cur,c,d,by rw[Below.heap_setCell _ _ _ _ (by omega)];exact f,r⟩
theorem On {w:World}{B a:Nat}{e:TypeId}{size n:Nat}{v:Value}{xs:List Value}(h:w.ownsRow B e size v n xs)(b:a≤B):w.ownsRow a e size v n xs:=by
 refine⟨h.1,?_⟩;rcases h.2 with c|⟨g,cap,cur,d,f,i⟩
 ·exact .inl c
 ·exact .inr ⟨g,cap,cur,d,Nat.le_trans b f,i⟩
theorem E1 {B n size:Nat}{e:TypeId}{v:Value}{xs:List Value}{w:World}(h:w.ownsRow B e size v n xs):∃ a c,v= .slice a n c:=by
 rcases h.2 with⟨rfl,b⟩|⟨d,cap,cur,rfl,_⟩
 ·exact⟨_,_,by rw[b]⟩
 ·exact⟨_,_,rfl⟩
theorem N9 (w:World)(B:Nat)(e:TypeId)(size:Nat):w.ownsRow B e size (.slice none 0 0) 0 []:=World.ownsRow_nil w B e size
theorem L6 (w:World)(e:TypeId)(size:Nat):(w.alloc (.cells #[] e)).ownsRow w.heap.size e size (.slice (some ⟨w.heap.size,0,none⟩) 0 0) 0 []:=World.ownsRow_made w #[] 0 (Nat.le_refl _) (Nat.zero_le _) (by simp)
def Reads (w:World)(A:Option Addr)(c n:Nat)(vs:List Value):Prop:=
 0<n→∃ b off,A=some ⟨b,off,none⟩∧n≤c∧b<w.heap.size∧∀ j v,vs[j]? =some v→w.cell? ⟨b,off+j,none⟩=some v
theorem Reads.none_ (w:World)(A:Option Addr)(c:Nat)(vs:List Value):Reads w A c 0 vs:=fun h=>absurd h (by omega)
theorem Reads.below {w w':World}{A:Option Addr}{c n:Nat}{vs:List Value}(h:Reads w A c n vs)(e:Bw w w'):Reads w' A c n vs:=fun f=>by
 obtain⟨b,off,g,i,d,a⟩:=h f;refine⟨b,off,g,i,Nat.lt_of_lt_of_le d e.size,fun j v k=>?_⟩;rw[e.cell (p:=⟨b,off+j,none⟩) d];exact a j v k
theorem Reads.alloc {w:World}{A:Option Addr}{c n:Nat}{vs:List Value}(h:Reads w A c n vs)(o:Obj):Reads (w.alloc o) A c n vs:=h.below (Ac w o)
theorem Reads.at_ {w:World}{A:Option Addr}{c n:Nat}{a:List Value}(h:Reads w A c n a)(d:0<n):∃ b off,A=some ⟨b,off,none⟩∧n≤c∧b<w.heap.size∧∀ j v,a[j]? =some v→w.cell? ⟨b,off+j,none⟩=some v:=h d
theorem Cz {w:World}{B:Nat}{e:TypeId}{size n c:Nat}{A:Option Addr}{vs:List Value}(h:w.ownsRow B e size (.slice A n c) n vs):Reads w A c n vs:=fun o=>by
 rcases h.2 with⟨_,p⟩|⟨g,cap,cur,d,q,b,f,r,s,i⟩
 ·omega
 ·injection d with k t l
  subst k l;refine⟨g,0,rfl,f,Bt b,fun j v a=>?_⟩;have m:cur.toList[j]? =some v:=by
   rw[← i]at a;rw[List.getElem?_take]at a
   split at a
   ·exact a
   ·cases a
  rw[Aa b,Nat.zero_add]
  simpa using m
theorem F7 {w:World}{g:Nat}{cs:List Value}{T:TypeId}{n c:Nat}(h:w.heap[g]? =some (.cells cs.toArray T (0,0)))(a:n≤c):Reads w (some ⟨g,0,none⟩) c n cs:=fun _=>
 ⟨g,0,rfl,a,Bt h,fun j v b=>by rw[Aa h,Nat.zero_add];simpa using b⟩
theorem Jt {α:Type}{enc:α→List Value}{k:Nat}(hk:∀ x,(enc x).length=k):∀ (l:List α) (j i:Nat) (hj:j<l.length),i<k→(l.flatMap enc)[j*k+i]? =(enc l[j])[i]? :=by
 intro l
 induction l with
 |nil=>intro j i h;simp at h
 |cons x l ih=>
  intro j i hj a;rw[List.flatMap_cons]
  cases j with
  |zero=>rw[List.getElem?_append_left (by rw[hk];omega)];simp
  |succ j=>
   rw[List.getElem?_append_right (by rw[hk,Nat.succ_mul];omega),hk,show(j+1)*k+i-k=j*k+i by rw[Nat.succ_mul];omega];exact ih j i (by simpa using hj) a
theorem Co {α:Type}{enc:α→List Value}{k:Nat}(hk:∀ x,(enc x).length=k)(l:List α):(l.flatMap enc).length=l.length*k:=by
 induction l with
 |nil=>simp
 |cons x l ih=>rw[List.flatMap_cons,List.length_append,hk,ih,List.length_cons,Nat.succ_mul];omega
theorem Bz {α:Type}{enc:α→List Value}{k:Nat}(hk:∀ x,(enc x).length=k){w:World}{A:Option Addr}{c:Nat}{l:List α}(h:Reads w A c l.length (l.flatMap enc)){j:Nat}(f:j<l.length):
 ∃ b off,A=some ⟨b,off,none⟩∧l.length≤c∧b<w.heap.size∧∀ i v,(enc l[j])[i]? =some v→w.cell? ⟨b,off+j*k+i,none⟩=some v:=by
 obtain⟨b,off,g,m,d,a⟩:=h (by omega);refine⟨b,off,g,m,d,fun i v e=>?_⟩;have n:i<k:=by
  have:=(List.getElem?_eq_some_iff.1 e).1;rw[hk]at this;exact this
 rw[Nat.add_assoc];exact a _ _ (by rw[Jt hk l j i f n];exact e)
theorem Qd {P:Program}{w:World}{t e ty:TypeId}{i0:TypeInfo}{B n size:Nat}{v:Value}{xs:List Value}(d:P.underlying t=some (.slice e))(hi:P.info? e=some i0)(a:w.ownsRow B e size v n xs)(c:Nat):
 (Builtin.append_ #[t,t] ty #[v,.slice none 0 c]).run P w= .ok v w:=by
 rcases a.2 with⟨rfl,f⟩|⟨g,cap,cur,rfl,_,_,b,_⟩
 ·simp[Builtin.append_,run_underlying d,sizeOf,typeInfo,hi,Builtin.lenOf,Builtin.firstCells]
 ·simp[Builtin.append_,run_underlying d,sizeOf,typeInfo,hi,Builtin.lenOf,Builtin.firstCells,b,storeCells]
theorem Mx {P:Program}{o:Oper}{a:Act}{K:Act→World→Prop}{Q:Exit→Act→World→Prop}(w:World)(s x:Operand)(t e:TypeId)(i0:TypeInfo)(z:Value)(size bytes:Nat)
 (F:P.underlying t=some (.slice e)) (hi:P.info? e=some i0) (M:i0.zero=some z) (q:i0.size=size) (r:i0.bytes=bytes) (y:z.cells.size=size) (f:0<size)
 (G:o.op= .call {callee:=.builtin .append,args:=#[s,x],argTypes:=#[t,t]})
 (B:Nat) (v:Value) (n:Nat) (xs:List Value) (H:a.eval s=v) (d:w.ownsRow B e size v n xs) (A:Option Addr) (m c:Nat) (l:List Value) (I:a.eval x= .slice A m c) (hy:Reads w A c m l) (i:l.length=m*size) (C:∀ u∈l,u.oneCell'=true)
 (hlen:n+m≤1048576) (D:bytes≤1024) (g:B≤w.heap.size)
 (h:∀ v' w',w'.ownsRow B e size v' (n+m) (xs++l)→w.grownBy w' v.ownBlock→Below B w w'→K (a.put o.dst v') w'):o.wp P a w K Q:=by
 rcases A with _|ad
 ·have N:m=0:=by
   rcases Nat.eq_zero_or_pos m with h0|h0
   ·exact h0
   ·obtain⟨b,off,e,_⟩:=hy h0
    cases e
  subst N;have E:l=[]:=List.eq_nil_of_length_eq_zero (by simpa using i);subst E;have p:=Qd (ty:=o.type) F hi d c;unfold Oper.wp execOp;simp only[G,resolve,invoke,builtin,Sem.run_bind,Sem.run_pure,Result.andThen_ok,List.map_toArray,List.map_cons,List.map_nil,H,I,p];exact h v w (by simpa using d) (World.grownBy.refl w _) (Below.refl _ _)
 ·refine wp_append_own w s x _ G B e i0 z size bytes F hi M q r y f v n xs H d ad m c l I i ?_ C (by simp only[maxLen];omega) ?_ g ?_
  ·intro j u J
   have f:0<m:=by
    have:=(List.getElem?_eq_some_iff.1 J).1;rcases Nat.eq_zero_or_pos m with h0|h0
    ·subst h0;rw[Nat.zero_mul]at i;omega
    ·exact h0
   obtain⟨b,off,e,_,_,O⟩:=hy f
   injection e with e
   subst e;rw[show(⟨b,off,none⟩:Addr).add j=⟨b,off+j,none⟩from Addr.add_mid b off j];exact O j u J
  ·have:(n+m)*bytes≤1048576*1024:=Nat.mul_le_mul hlen D
   omega
  ·intro v' w' C L _
   exact h v' w' C L ((Below.refl _ _).grown L g (fun k hk=>(d.lt k hk).1))
theorem Da {P:Program}{ops:Array Oper}{Q:Exit→Act→World→Prop}{a:Act}{w:World}{rest:List Oper}{o:Oper}(b:Region.wanted o (yielded ops a.tmps)=true)(h:∀ K:Act→World→Prop,(∀ a w,wpList P ops Q rest a w→K a w)→o.wp P a w K Q):wpList P ops Q (o::rest) a w:=
 wpList_step fun K c=>by rw[if_pos b];exact h K c
theorem Q4 {P:Program}(w:World)(b:Nat)(ty:TypeId)(cells cur:Array Value)(t:TypeId)(f:w.heap[b]? =some (.cells cur t (0,0)))(c:cur.size=cells.size)(hi:(P.info? ty).map (·.size)=some cells.size)(g:cells.all (·.oneCell')=true):
 (storeVar ty ⟨b,0,none⟩ (.agg cells)).run P w= .ok () (w.setRow b cells):=by
 have a:=run_storeCells_at P b 0 t cells.toList 0 cur w f (by simp[c]) (fun v h=>(Array.all_eq_true_iff_forall_mem.1 g) v (by simpa using h));simp only[Nat.zero_add,List.take_zero,List.nil_append]at a;have e:(cells.toList++cur.toList.drop cells.toList.length).toArray=cells:=by
  rw[List.drop_of_length_le (by simp[c])];simp
 rw[e]at a
 cases d:P.info? ty with
 |none=>simp[d]at hi
 |some i=>
  have j:cells.size=i.size:=by simp[d]at hi;omega
  simp[storeVar,sizeOf,typeInfo,d,Value.cells,j,a]
theorem Jb {P:Program}{op:Oper}{a:Act}{w:World}{K:Act→World→Prop}{Q:Exit→Act→World→Prop}(ty:TypeId)(x y:Operand)(d:op.op= .store ty x y)
 (b:Nat) (cells cur:Array Value) (t:TypeId) (e:a.eval x= .pointer (some ⟨b,0,none⟩)) (hy:a.eval y= .agg cells) (f:w.heap[b]? =some (.cells cur t (0,0))) (c:cur.size=cells.size)
 (hi:(P.info? ty).map (·.size)=some cells.size) (g:cells.all (·.oneCell')=true) (h:K (a.put op.dst undef) (w.setRow b cells)):op.wp P a w K Q:=by
 unfold Oper.wp execOp;simp only[d,e,hy,Instr.storeAt,Instr.sureAddr,Sem.run_bind,Sem.run_pure,Result.andThen_ok,Q4 w b ty cells cur t f c hi g];exact h
theorem sW {P:Program}{op:Oper}{a:Act}{w:World}{K:Act→World→Prop}{Q:Exit→Act→World→Prop}{ty:TypeId}{x y:Operand}{b:Nat}(cells:Array Value){cur:Array Value}{t:TypeId}(c:w.heap[b]? =some (.cells cur t (0,0)))(h:K (a.put op.dst undef) (w.setRow b cells))(d:op.op= .store ty x y:=by exact rfl)(e:a.eval x= .pointer (some ⟨b,0,none⟩):=by with_unfolding_all exact rfl)(hy:a.eval y= .agg cells:=by with_unfolding_all exact rfl)(f:cur.size=cells.size:=by kernel_rfl)(hi:(P.info? ty).map (·.size)=some cells.size:=by kernel_rfl)(g:cells.all (·.oneCell')=true:=by kernel_rfl):op.wp P a w K Q:=Jb ty x y d b cells cur t e hy c f hi g h
theorem Wa (w:World)(cs cur:Array Value)(t:TypeId):(w.alloc (.cells cur t)).setRow w.heap.size cs=w.alloc (.cells cs t):=by
 have e:(w.heap.push (Obj.cells cur t)).modify w.heap.size (fun| .cells _ elem frozen=>.cells cs elem frozen|o=>o)=w.heap.push (.cells cs t):=by
  apply Array.ext_getElem?
  intro i;rw[Array.getElem?_modify,Array.getElem?_push,Array.getElem?_push]
  by_cases h:i=w.heap.size
  ·subst h;simp
  ·rw[if_neg (fun e=>h e.symm),if_neg h,if_neg h]
 show({w with heap:=(w.heap.push (Obj.cells cur t)).modify w.heap.size (fun| .cells _ elem frozen=>.cells cs elem frozen|o=>o)}:World)={w with heap:=w.heap.push (.cells cs t)}
 rw[e]
theorem Kh {P:Program}{ops:Array Oper}{rest:List Oper}{op:Oper}{a:Act}{w:World}{Q:Exit→Act→World→Prop}(b:op.guard=none)(ty:TypeId)(x y:Operand)(d:op.op= .store ty x y)
 (cells cur:Array Value) (t:TypeId) (e:a.eval x= .pointer (some ⟨w.heap.size,0,none⟩)) (hy:a.eval y= .agg cells) (c:cur.size=cells.size)
 (hi:(P.info? ty).map (·.size)=some cells.size) (f:cells.all (·.oneCell')=true)
 (h:wpList P ops Q rest (a.put op.dst undef) (w.alloc (.cells cells t))):wpList P ops Q (op::rest) a (w.alloc (.cells cur t)):=
 wpList_plain b fun _ g=>Jb ty x y d w.heap.size cells cur t e hy (heap_alloc_new w _) c hi f (g _ _ (by rw[Wa];exact h))
theorem sN {P:Program}{ops:Array Oper}{rest:List Oper}{op:Oper}{a:Act}{w:World}{Q:Exit→Act→World→Prop}{ty:TypeId}{x y:Operand}(cells:Array Value){cur:Array Value}{t:TypeId}(h:wpList P ops Q rest (a.put op.dst undef) (w.alloc (.cells cells t)))(b:op.op= .store ty x y:=by exact rfl)(c:a.eval x= .pointer (some ⟨w.heap.size,0,none⟩):=by with_unfolding_all exact rfl)(hy:a.eval y= .agg cells:=by with_unfolding_all exact rfl)(d:op.guard=none:=by exact rfl)(e:cur.size=cells.size:=by kernel_rfl)(hi:(P.info? ty).map (·.size)=some cells.size:=by kernel_rfl)(f:cells.all (·.oneCell')=true:=by kernel_rfl):wpList P ops Q (op::rest) a (w.alloc (.cells cur t)):=Kh d ty x y b cells cur t c hy e hi f h
theorem Wb {P:Program}{fn:Func}{p:Tmp}{ty:TypeId}(h:fn.results=#[.cell p ty])(tmps:Array Value)(w:World){a:Addr}(c:tmps.getD p undef= .pointer (some a)){v:Value}(d:(loadVar ty a).run P w= .ok v w):
 (results fn tmps).run P w= .ok v w:=by
 simp only[results,h];have b:tmps[p]?.getD undef= .pointer (some a):=by simpa using c
 simp[b,asAddr,d]
theorem Cf {P:Program}{w:World}{b:Nat}{ty:TypeId}{cells:Array Value}{t:TypeId}{d:TypeDesc}(a:w.heap[b]? =some (.cells cells t (0,0)))
 (c:P.underlying ty=some d) (e:d.isRow=true) (hi:(P.info? ty).map (·.size)=some cells.size):(loadVar ty ⟨b,0,none⟩).run P w= .ok (.agg cells) w:=by
 have h:=run_loadVar_mid (P:=P) w b 0 ty cells.toList d (fun j v f=>by rw[Aa a,Nat.zero_add];simpa using f) c e (by simpa using hi)
 simpa using h
theorem nG {P:Program}{ops:Array Oper}{rest:List Oper}{op:Oper}{a:Act}{w:World}{Q:Exit→Act→World→Prop}(c:Region.wanted op (yielded ops a.tmps)=true)(ty:TypeId)(x:Operand)(e:op.op= .load ty x)
 (b:Nat) (f:a.eval x= .pointer (some ⟨b,0,none⟩)) (cells:Array Value) (t:TypeId) (g:w.heap[b]? =some (.cells cells t (0,0))) (d:TypeDesc)
 (i:P.underlying ty=some d) (k:d.isRow=true) (hi:(P.info? ty).map (·.size)=some cells.size)
 (h:wpList P ops Q rest (a.put op.dst (.agg cells)) w):wpList P ops Q (op::rest) a w:=
 Da c fun K l=>by
  refine wp_load_mid ty x e b 0 f cells.toList d (fun j v m=>by rw[Aa g,Nat.zero_add];simpa using m) i k (by simpa using hi) ?_
  simpa using l _ _ h
theorem lL {P:Program}{ops:Array Oper}{rest:List Oper}{op:Oper}{a:Act}{w:World}{Q:Exit→Act→World→Prop}{ty:TypeId}{x:Operand}{b:Nat}{cells:Array Value}{t:TypeId}{d:TypeDesc}(c:w.heap[b]? =some (.cells cells t (0,0)))(e:P.underlying ty=some d)(h:wpList P ops Q rest (a.put op.dst (.agg cells)) w)(f:op.op= .load ty x:=by exact rfl)(g:a.eval x= .pointer (some ⟨b,0,none⟩):=by with_unfolding_all exact rfl)(i:Region.wanted op (yielded ops a.tmps)=true:=by kernel_rfl)(j:d.isRow=true:=by kernel_rfl)(hi:(P.info? ty).map (·.size)=some cells.size:=by kernel_rfl):wpList P ops Q (op::rest) a w:=nG i ty x f b g cells t c d e j hi h
section
variable {P : Program} {ops : Array Oper} {Q : Exit → Act → World → Prop} {md : Region.Mode} {S : World → Prop}
theorem Qe (i:Nat)(d:Option Nat){op:Op}{ty:TypeId}{pos:String}{b:Array Edge}{g:Option (Nat×Bool)}{v:Value}{fuel:Nat}{listed:Array Bool}{a:Act}{w:World}(hi:ops[i]? =some ⟨d,op,ty,pos,b,g⟩)
 (hy:∀ w,S w→(execOp a.eval ⟨d,op,ty,pos,b,g⟩).run P w= .ok (.value v) w) (h:wpAnyH P md ops Q S fuel (listed.setIfInBounds i true) (a.put d v) w)
 (e:Region.wanted ⟨d,op,ty,pos,b,g⟩ (yielded ops a.tmps)=true:=by rfl) (f:S w:=by assumption) (j:Region.noSelect ops=true:=by kernel_rfl) (k:Region.free md ops listed i=true:=by kernel_rfl) (l:(Region.ready md ops listed).contains i=true:=by kernel_rfl) (m:∀ c a w,Q (.panic c) (a.put d v) w→Q (.panic c) a w:=by exact fun _ _ _ h=>h):
 wpAnyH P md ops Q S (fuel+1) listed a w:=wpAnyH_take hi j k l m (.inl ⟨e,hy⟩) f h
theorem Ez (i:Nat)(d:Option Nat){op:Op}{ty:TypeId}{pos:String}{b:Array Edge}{g:Option (Nat×Bool)}{fuel:Nat}{listed:Array Bool}{a:Act}{w:World}(hi:ops[i]? =some ⟨d,op,ty,pos,b,g⟩)
 (h:wpAnyH P md ops Q S fuel (listed.setIfInBounds i true) (a.put d undef) w)
 (e:Region.wanted ⟨d,op,ty,pos,b,g⟩ (yielded ops a.tmps)=false:=by rfl) (f:S w:=by assumption) (j:Region.noSelect ops=true:=by kernel_rfl) (k:Region.free md ops listed i=true:=by kernel_rfl) (l:(Region.ready md ops listed).contains i=true:=by kernel_rfl) (m:∀ c a w,Q (.panic c) (a.put d undef) w→Q (.panic c) a w:=by exact fun _ _ _ h=>h):
 wpAnyH P md ops Q S (fuel+1) listed a w:=wpAnyH_take hi j k l m (.inr ⟨e,rfl⟩) f h
theorem uU (i:Nat)(d:Option Nat){op:Op}{ty:TypeId}{pos:String}{b:Array Edge}{g:Option (Nat×Bool)}{v:Value}{fuel:Nat}{listed:Array Bool}{a:Act}{w:World}(hi:ops[i]? =some ⟨d,op,ty,pos,b,g⟩)
 (hy:YieldsIf P ops S ⟨d,op,ty,pos,b,g⟩ v a) (h:wpAnyH P md ops Q S fuel (listed.setIfInBounds i true) (a.put d v) w)
 (e:S w:=by assumption) (f:Region.noSelect ops=true:=by kernel_rfl) (j:Region.free md ops listed i=true:=by kernel_rfl) (k:(Region.ready md ops listed).contains i=true:=by kernel_rfl) (l:∀ c a w,Q (.panic c) (a.put d v) w→Q (.panic c) a w:=by exact fun _ _ _ h=>h):
 wpAnyH P md ops Q S (fuel+1) listed a w:=wpAnyH_take hi f j k l hy e h
theorem zP (i:Nat)(d:Option Nat){op:Op}{ty:TypeId}{pos:String}{b:Array Edge}{g:Option (Nat×Bool)}{fuel:Nat}{listed:Array Bool}{a:Act}{w:World}(hi:ops[i]? =some ⟨d,op,ty,pos,b,g⟩)
 (h:∀ K':Act→World→Prop,Shut (∀ a w,S w→(S w→wpAnyH P md ops Q S fuel (listed.setIfInBounds i true) a w)→K' a w)→if Region.wanted ⟨d,op,ty,pos,b,g⟩ (yielded ops a.tmps)=true then Oper.wp P ⟨d,op,ty,pos,b,g⟩ a w K' Q else K' (a.put d undef) w)
 (c:Region.ready md ops listed=[i]:=by kernel_rfl):wpAnyH P md ops Q S (fuel+1) listed a w:=
 wpAnyH_ready c (by simp) (AllReadyH.cons hi h AllReadyH.nil)
end
abbrev Cn (a b c d e f g h i:Int)(j k:ByteArray)(l m:Int)(n:ByteArray)(o p:Int)(q r:Value):Array Value:=#[a,b,c,d,e,f,g,h,i,j,k,l,m,n,o,p,q,r]
theorem pS:(∀ (l:List Value) (i:Nat) (v:Value),l.toArray.setIfInBounds i v=(l.set i v).toArray)∧(∀ (a:Value) (l:List Value) (v:Value),(a::l).set 0 v=v::l)∧∀ (a:Value) (l:List Value) (i:Nat) (v:Value),(a::l).set (i+1) v=a::l.set i v:=⟨fun _ _ _=>List.setIfInBounds_toArray ..,fun _ _ _=>rfl,fun _ _ _ _=>rfl⟩
theorem Cc {c:Prop}[Decidable c]{p q:Prop}(a:c)(h:p):if c then p else q:=by rw[if_pos a];exact h
theorem Wc {P:Program}{o:Oper}{a:Act}{K:Act→World→Prop}{Q:Exit→Act→World→Prop}(w:World)(s x:Operand)(t e:TypeId){z:Value}{size bytes:Nat}
 (p:P.underlying t=some (.slice e)) (hi:(P.info? e).map (fun i=>(i.zero,i.size,i.bytes))=some (some z,size,bytes)) (f:z.cells.size=size) (c:0<size) (j:bytes≤1024)
 (q:o.op= .call {callee:=.builtin .append,args:=#[s,x],argTypes:=#[t,t]})
 (B:Nat) (v:Value) (n:Nat) (xs:List Value) (r:a.eval s=v) (d:w.ownsRow B e size v n xs) (g:Nat) (cs:List Value) (T:TypeId) (y:a.eval x= .slice (some ⟨g,0,none⟩) 1 1) (A:w.heap[g]? =some (.cells cs.toArray T (0,0)))
 (C:cs.length=size) (D:∀ u∈cs,u.oneCell'=true) (hlen:n+1≤1048576) (b:B≤w.heap.size)
 (h:∀ v' w',w'.ownsRow B e size v' (n+1) (xs++cs)→w.grownBy w' v.ownBlock→Below B w w'→K (a.put o.dst v') w'):o.wp P a w K Q:=by
 obtain⟨i0,hi,k,l,m⟩:=info_parts hi;exact Mx w s x t e i0 _ size bytes p hi k l m f c q B v n xs r d _ 1 1 cs y (F7 (cs:=cs) A (Nat.le_refl _)) (by omega) D hlen j b h
theorem Hz {P:Program}{ops:Array Oper}{rest:List Oper}{o:Oper}{a:Act}{Q:Exit→Act→World→Prop}{w:World}(p:Region.wanted o (yielded ops a.tmps)=true)(s x:Operand)(t e:TypeId){z:Value}{size bytes:Nat}
 (q:P.underlying t=some (.slice e)) (hi:(P.info? e).map (fun i=>(i.zero,i.size,i.bytes))=some (some z,size,bytes)) (k:z.cells.size=size) (f:0<size) (l:bytes≤1024)
 (r:o.op= .call {callee:=.builtin .append,args:=#[s,x],argTypes:=#[t,t]})
 (B:Nat) (v:Value) (n:Nat) (xs:List Value) (y:a.eval s=v) (j:w.ownsRow B e size v n xs) (g:Nat) (cs:List Value) (T:TypeId) (A:a.eval x= .slice (some ⟨g,0,none⟩) 1 1) (C:w.heap[g]? =some (.cells cs.toArray T (0,0)))
 (m:cs.length=size) (D:∀ u∈cs,u.oneCell'=true) (hlen:n+1≤1048576) (d:B≤w.heap.size)
 (h:∀ v' w',w'.ownsRow B e size v' (n+1) (xs++cs)→w.grownBy w' v.ownBlock→Below B w w'→wpList P ops Q rest (a.put o.dst v') w'):wpList P ops Q (o::rest) a w:=
 Da p fun _ E=>Wc w s x t e q hi k f l r B v n xs y j g cs T A C m D hlen d (fun v' w' a b c=>E _ _ (h v' w' a b c))
abbrev Dt {α:Type}(enc:α→List Value)(k:Nat)(e:TypeId)(B:Nat)(w:World)(v:Value)(l:List α):Prop:=w.ownsRow B e k v l.length (l.flatMap enc)
theorem Dt.push {α:Type}{enc:α→List Value}{k:Nat}{e:TypeId}{B:Nat}{w:World}{v:Value}{l:List α}{x:α}(h:w.ownsRow B e k v (l.length+1) (l.flatMap enc++enc x)):Dt enc k e B w v (l++[x]):=by
 unfold Dt;rw[List.length_append,List.flatMap_append]
 simpa using h
theorem Dt.form {α:Type}{enc:α→List Value}{k:Nat}{e:TypeId}{B:Nat}{w:World}{v:Value}{l:List α}(h:Dt enc k e B w v l):∃ A c,v= .slice A l.length c∧Reads w A c l.length (l.flatMap enc):=by
 obtain⟨A,c,rfl⟩:=E1 h;exact⟨A,c,rfl,Cz h⟩
theorem Gs {w:World}{B g n size:Nat}{e t:TypeId}{v:Value}{xs:List Value}{cs:Array Value}{fr:Nat×Nat}(h:w.ownsRow B e size v n xs)(a:w.heap[g]? =some (.cells cs t fr))(b:e≠t):v.ownBlock≠some g:=by
 rcases h.2 with⟨rfl,_⟩|⟨d,cap,cur,rfl,_,f,_⟩
 ·simp[Value.ownBlock]
 ·intro i
  have c:d=g:=by simpa[Value.ownBlock]using i
  subst c;rw[f]at a
  injection a with a
  injection a with _ j
  exact b j
theorem nH {w w':World}{B n m size a:Nat}{e i:TypeId}{v j:Value}{xs b:List Value}(h:w.ownsRow B e size v n xs)(k:w.ownsRow B i a j m b)(c:e≠i)(l:w.grownBy w' j.ownBlock):w'.ownsRow B e size v n xs:=by
 refine⟨h.1,?_⟩;rcases h.2 with o|⟨g,cap,cur,p,d,f,r⟩
 ·exact .inl o
 ·exact .inr ⟨g,cap,cur,p,d,(l.block g (Bt f) (fun q=>Gs k f (fun s=>c s.symm) q.symm)).trans f,r⟩
theorem Ae (w:World)(b:Nat)(cs:Array Value)(k:Nat)(h:k≠b):(w.setRow b cs).heap[k]? =w.heap[k]? :=by
 show(w.heap.modify b _)[k]? =_
 rw[Array.getElem?_modify,if_neg (fun e=>h e.symm)]
structure Eg (B:Nat) (w:World) (l:List (Array Value×TypeId)) (u:World):Prop where
 get:∀ i p,l[i]? =some p→u.heap[B+i]? =some (.cells p.1 p.2 (0,0))
 low:w.heap.size≤B
 below:Bw w u
theorem Eg.Ao {B:Nat}{w u:World}{l:List (Array Value×TypeId)}{c0:Array Value}{a:TypeId}(h:Eg B w ((c0,a)::l) u):u.heap[B]? =some (.cells c0 a (0,0)):=h.get 0 _ rfl
theorem Eg.Aq {B:Nat}{w u:World}{l:List (Array Value×TypeId)}{p:Array Value×TypeId}{a:Array Value}{b:TypeId}(h:Eg B w (p::(a,b)::l) u):u.heap[B+1]? =some (.cells a b (0,0)):=h.get 1 _ rfl
theorem Eg.Cd {B:Nat}{w u:World}{l:List (Array Value×TypeId)}{p q:Array Value×TypeId}{c2:Array Value}{a:TypeId}(h:Eg B w (p::q::(c2,a)::l) u):u.heap[B+2]? =some (.cells c2 a (0,0)):=h.get 2 _ rfl
theorem Eg.wN {B:Nat}{w u:World}{l:List (Array Value×TypeId)}{p q r:Array Value×TypeId}{c3:Array Value}{a:TypeId}(h:Eg B w (p::q::r::(c3,a)::l) u):u.heap[B+3]? =some (.cells c3 a (0,0)):=h.get 3 _ rfl
theorem Eg.nil {w u:World}(h:Bw w u):Eg u.heap.size w [] u:=⟨fun i p h=>(by simp at h),h.size,h⟩
theorem Eg.lt {B:Nat}{w u:World}{l:List (Array Value×TypeId)}(h:Eg B w l u){i:Nat}(hi:i<l.length):B+i<u.heap.size:=Bt (h.get i _ (List.getElem?_eq_getElem hi))
theorem Eg.new {B:Nat}{w u:World}{l:List (Array Value×TypeId)}(h:Eg B w l u)(d:u.heap.size=B+l.length)(cs:Array Value)(T:TypeId):Eg B w (l++[(cs,T)]) (u.alloc (.cells cs T)):=by
 refine⟨fun i p a=>?_,h.low,Aj h.below⟩
 by_cases b:i<l.length
 ·rw[List.getElem?_append_left b]at a
  exact Af (h.get i p a) (Ac _ _)
 ·rw[List.getElem?_append_right (by omega)]at a
  have c:i-l.length=0:=by
   have:=(List.getElem?_eq_some_iff.1 a).1
   simpa using this
  rw[c]at a;simp only[List.getElem?_cons_zero,Option.some.injEq]at a;subst a;rw[show B+i=u.heap.size by omega];exact heap_alloc_new u _
theorem bP (w:World)(c0:Array Value)(t0:TypeId):Hid (Eg w.heap.size w [(c0,t0)] (w.alloc (.cells c0 t0))):=Hq ((Eg.nil (Below.refl w.heap.size w)).new (by simp) c0 t0)
theorem Lx (w:World)(c0:Array Value)(t0:TypeId)(a:Array Value)(t1:TypeId):Hid (Eg w.heap.size w [(c0,t0),(a,t1)] ((w.alloc (.cells c0 t0)).alloc (.cells a t1))):=Hq (((Eg.nil (Below.refl w.heap.size w)).new (by simp) c0 t0).new (by simp) a t1)
theorem Ol (w:World)(c0:Array Value)(t0:TypeId)(a:Array Value)(t1:TypeId)(c2:Array Value)(t2:TypeId):Hid (Eg w.heap.size w [(c0,t0),(a,t1),(c2,t2)] (((w.alloc (.cells c0 t0)).alloc (.cells a t1)).alloc (.cells c2 t2))):=Hq ((((Eg.nil (Below.refl w.heap.size w)).new (by simp) c0 t0).new (by simp) a t1).new (by simp) c2 t2)
theorem xT (w:World)(c0:Array Value)(t0:TypeId)(a:Array Value)(t1:TypeId)(c2:Array Value)(t2:TypeId)(c3:Array Value)(t3:TypeId):Hid (Eg w.heap.size w [(c0,t0),(a,t1),(c2,t2),(c3,t3)] ((((w.alloc (.cells c0 t0)).alloc (.cells a t1)).alloc (.cells c2 t2)).alloc (.cells c3 t3))):=Hq (((((Eg.nil (Below.refl w.heap.size w)).new (by simp) c0 t0).new (by simp) a t1).new (by simp) c2 t2).new (by simp) c3 t3)
theorem zQ (w:World)(c0:Array Value)(t0:TypeId)(a:Array Value)(t1:TypeId)(c2:Array Value)(t2:TypeId)(c3:Array Value)(t3:TypeId)(c4:Array Value)(t4:TypeId):Hid (Eg w.heap.size w [(c0,t0),(a,t1),(c2,t2),(c3,t3),(c4,t4)] (((((w.alloc (.cells c0 t0)).alloc (.cells a t1)).alloc (.cells c2 t2)).alloc (.cells c3 t3)).alloc (.cells c4 t4))):=Hq ((((((Eg.nil (Below.refl w.heap.size w)).new (by simp) c0 t0).new (by simp) a t1).new (by simp) c2 t2).new (by simp) c3 t3).new (by simp) c4 t4)
theorem zR (w:World)(c0:Array Value)(t0:TypeId)(a:Array Value)(t1:TypeId)(c2:Array Value)(t2:TypeId)(c3:Array Value)(t3:TypeId)(c4:Array Value)(t4:TypeId)(c5:Array Value)(t5:TypeId):Hid (Eg w.heap.size w [(c0,t0),(a,t1),(c2,t2),(c3,t3),(c4,t4),(c5,t5)] ((((((w.alloc (.cells c0 t0)).alloc (.cells a t1)).alloc (.cells c2 t2)).alloc (.cells c3 t3)).alloc (.cells c4 t4)).alloc (.cells c5 t5))):=Hq (((((((Eg.nil (Below.refl w.heap.size w)).new (by simp) c0 t0).new (by simp) a t1).new (by simp) c2 t2).new (by simp) c3 t3).new (by simp) c4 t4).new (by simp) c5 t5)
theorem Eg.g3 {B:Nat}{w u:World}{l:List (Array Value×TypeId)}{p q r:Array Value×TypeId}{c3:Array Value}{a:TypeId}(h:Eg B w (p::q::r::(c3,a)::l) u):u.heap[B+3]? =some (.cells c3 a (0,0)):=h.get 3 _ rfl
theorem Eg.g4 {B:Nat}{w u:World}{l:List (Array Value×TypeId)}{p q r s:Array Value×TypeId}{c4:Array Value}{a:TypeId}(h:Eg B w (p::q::r::s::(c4,a)::l) u):u.heap[B+4]? =some (.cells c4 a (0,0)):=h.get 4 _ rfl
theorem E0 {B:Nat}{w u:World}{l:List (Array Value×TypeId)}(_:Hid (Eg B w l u)):∃ W,W=u:=⟨_,rfl⟩
theorem Eg.step {B:Nat}{w u v:World}{l:List (Array Value×TypeId)}(h:Eg B w l u)(a:Bw u v):Eg B w l v:=
 ⟨fun i p b=>Af (h.get i p b) a,h.low,Ag h.below a⟩
theorem Eg.under {B:Nat}{w u v:World}{l:List (Array Value×TypeId)}(h:Eg B w l u){M:Nat}(c:B+l.length≤M)(a:Below M u v):Eg B w l v:=by
 have d:=h.low;refine⟨fun i p b=>?_,h.low,h.below.trans (a.mono (by omega))⟩;have e:=(List.getElem?_eq_some_iff.1 b).1;exact(a.block _ (by omega)).trans (h.get i p b)
theorem Eg.drew {B:Nat}{w u:World}{l:List (Array Value×TypeId)}(h:Eg B w l u):Eg B w l u.drew:=h.step (Below.refl _ _).drew
theorem Eg.set {B:Nat}{w u:World}{l:List (Array Value×TypeId)}(h:Eg B w l u)(i j:Nat)(v:Value)(p:Array Value×TypeId)(hi:l[i]? =some p):Eg B w (l.set i (p.1.setIfInBounds j v,p.2)) (u.setCell ⟨B+i,j,none⟩ v):=by
 have b:=(List.getElem?_eq_some_iff.1 hi).1;refine⟨fun k q a=>?_,h.low,h.below.setCell (by have:=h.low;show _≤B+i;omega) v⟩
 by_cases hk:i=k
 ·subst hk
  rw[List.getElem?_set_self b]at a
  injection a with a
  subst a;exact Cp j (h.get i p hi) v
 ·rw[List.getElem?_set_ne hk]at a
  rw[Below.heap_setCell _ _ _ _ (by show B+k≠B+i;omega)];exact h.get k q a
theorem Eg.row {B:Nat}{w u:World}{l:List (Array Value×TypeId)}(h:Eg B w l u)(i:Nat)(cs:Array Value)(p:Array Value×TypeId)(hi:l[i]? =some p):Eg B w (l.set i (cs,p.2)) (u.setRow (B+i) cs):=by
 have b:=(List.getElem?_eq_some_iff.1 hi).1;have c:=h.low;refine⟨fun k q a=>?_,h.low,⟨h.below.os,h.below.tape,h.below.output,by show _≤(u.heap.modify _ _).size;have:=h.below.size;simpa using this,fun k hk=>(Ae _ _ _ _ (by omega)).trans (h.below.block k hk)⟩⟩
 by_cases hk:i=k
 ·subst hk
  rw[List.getElem?_set_self b]at a
  injection a with a
  subst a;exact setRow_heap _ _ _ _ _ _ (h.get i p hi)
 ·rw[List.getElem?_set_ne hk]at a
  rw[Ae _ _ _ _ (by omega)];exact h.get k q a
theorem Reads.off {w:World}{A:Option Addr}{c n:Nat}{vs:List Value}(h:Reads w A c n vs)(b j:Nat)(v:Value)(l:0<n→∀ ad,A=some ad→ad.block≠b):Reads (w.setCell ⟨b,j,none⟩ v) A c n vs:=fun i=>by
 obtain⟨g,off,e,m,d,a⟩:=h i;have f:=l i _ e;refine⟨g,off,e,m,by simpa[World.setCell]using d,fun k u hk=>?_⟩;have:=a k u hk;unfold World.cell? at this ⊢;rw[Below.heap_setCell _ _ _ _ f];exact this
theorem Reads.bQ {w:World}{A:Option Addr}{c n:Nat}{vs:List Value}(h:Reads w A c n vs)(b:Nat)(cs:Array Value)(j:0<n→∀ ad,A=some ad→ad.block≠b):Reads (w.setRow b cs) A c n vs:=fun i=>by
 obtain⟨g,off,e,l,d,a⟩:=h i;have f:=j i _ e;refine⟨g,off,e,l,by show _<(w.heap.modify _ _).size;simpa using d,fun k u hk=>?_⟩;have:=a k u hk;unfold World.cell? at this ⊢;rw[Ae _ _ _ _ f];exact this
theorem Reads.By {w:World}{A:Option Addr}{c n:Nat}{b:List Value}(h:Reads w A c n b)(d:0<n):∀ ad,A=some ad→ad.block<w.heap.size:=fun ad e=>by
 obtain⟨g,off,f,_,a,_⟩:=h d;rw[f]at e
 injection e with e
 rw[← e];exact a
structure E2 (lo hi:Nat) (w v:World):Prop where
 size:w.heap.size≤v.heap.size
 block:∀ k,k<w.heap.size→(k<lo∨hi≤k)→v.heap[k]? =w.heap[k]?
theorem E2.refl (lo hi:Nat)(w:World):E2 lo hi w w:=⟨Nat.le_refl _,fun _ _ _=>rfl⟩
theorem E2.trans {lo hi:Nat}{u v w:World}(h:E2 lo hi u v)(k:E2 lo hi v w):E2 lo hi u w:=⟨Nat.le_trans h.size k.size,fun i a b=>(k.block i (Nat.lt_of_lt_of_le a h.size) b).trans (h.block i a b)⟩
theorem E2.below {lo hi:Nat}{w v:World}(a:Bw w v):E2 lo hi w v:=⟨a.size,fun k b _=>a.block k b⟩
theorem E2.cell {lo hi:Nat}{u v:World}(h:E2 lo hi u v)(b j:Nat)(x:Value)(a:lo≤b)(c:b<hi):E2 lo hi u (v.setCell ⟨b,j,none⟩ x):=
 h.trans ⟨by simp[World.setCell],fun k _ hk=>Below.heap_setCell _ _ _ _ (by show k≠b;omega)⟩
theorem E2.row {lo hi:Nat}{u v:World}(h:E2 lo hi u v)(b:Nat)(cs:Array Value)(a:lo≤b)(c:b<hi):E2 lo hi u (v.setRow b cs):=
 h.trans ⟨by show _≤(v.heap.modify _ _).size;simp,fun k _ hk=>Ae _ _ _ _ (by omega)⟩
theorem E2.drew {lo hi:Nat}{u v:World}(h:E2 lo hi u v):E2 lo hi u v.drew:=h.trans (E2.below (Below.refl _ _).drew)
theorem Reads.apart {lo hi:Nat}{w v:World}{A:Option Addr}{c n:Nat}{vs:List Value}(h:Reads w A c n vs)(f:E2 lo hi w v)(j:0<n→∀ ad,A=some ad→ad.block<lo∨hi≤ad.block):Reads v A c n vs:=fun i=>by
 obtain⟨g,off,e,l,b,a⟩:=h i;have d:=j i _ e;refine⟨g,off,e,l,Nat.lt_of_lt_of_le b f.size,fun k u hk=>?_⟩;have:=a k u hk;unfold World.cell? at this ⊢;rw[f.block _ b d];exact this
theorem nI {lo hi:Nat}{w w':World}{B:Nat}{e:TypeId}{size n:Nat}{v:Value}{xs:List Value}(h:w.ownsRow B e size v n xs)(i:hi≤B)(b:E2 lo hi w w'):w'.ownsRow B e size v n xs:=by
 refine⟨h.1,?_⟩;rcases h.2 with c|⟨g,cap,cur,d,f,a,r⟩
 ·exact .inl c
 ·exact .inr ⟨g,cap,cur,d,f,(b.block g (Bt a) (.inr (by omega))).trans a,r⟩
theorem Yg {w:World}{B g n size:Nat}{e t:TypeId}{v:Value}{xs:List Value}{cur:Array Value}{fr:Nat×Nat}(h:w.ownsRow B e size v n xs)(b:w.heap[g]? =some (.cells cur t fr))(c:e≠t)(cs:Array Value):(w.setRow g cs).ownsRow B e size v n xs:=by
 refine⟨h.1,?_⟩;rcases h.2 with i|⟨j,cap,a,k,d,f,r⟩
 ·exact .inl i
 ·refine .inr ⟨j,cap,a,k,d,?_,r⟩
  rw[Ae _ _ _ _ (fun l=>?_)]
  ·exact f
  ·subst l
   rw[f]at b
   injection b with b
   injection b with _ m
   exact c m
theorem fD {w:World}{B g b n size c:Nat}{e t:TypeId}{xs:List Value}{cur:Array Value}{fr:Nat×Nat}(h:w.ownsRow B e size (.slice (some ⟨b,0,none⟩) n c) n xs)(d:w.heap[g]? =some (.cells cur t fr))(f:e≠t):b≠g:=by
 rcases h.2 with⟨i,_⟩|⟨o,cap,j,i,_,k,_⟩
 ·cases i
 ·injection i with a
  injection a with a
  injection a with a
  subst a;intro l;subst l;rw[k]at d
  injection d with d
  injection d with _ m
  exact f m
theorem Pk {w:World}{g b k:Nat}{x:Value}{o:Obj}{cs:Array Value}(h:w.cell? ⟨b,k,none⟩=some x)(_hg:w.heap[g]? =some o)(a:b≠g):(w.setRow g cs).cell? ⟨b,k,none⟩=some x:=by
 unfold World.cell? at h ⊢;rw[Ae _ _ _ _ a];exact h
theorem uK {w:World}{B n:Nat}{e:TypeId}{v:Value}{xs:List Value}(h:w.ownsRow B e 1 v n xs){k:Nat}(hk:k<n):∃ g cap,v= .slice (some ⟨g,0,none⟩) n cap∧B≤g∧g<w.heap.size∧n≤cap∧w.cell? ⟨g,k,none⟩=xs[k]?∧w.frozen? ⟨g,k,none⟩=false∧
 ∀ u,(w.setCell ⟨g,k,none⟩ u).ownsRow B e 1 v n (xs.set k u):=by
 rcases h.2 with⟨_,l⟩|⟨g,cap,cur,b,c,a,d,i,j,f⟩
 ·omega
 ·refine⟨g,cap,b,c,Bt a,d,?_,Ap a k,fun u=>⟨by rw[List.length_set];exact h.1,.inr ⟨g,cap,cur.setIfInBounds k u,b,c,Cp k a u,d,i,by simpa using j,?_⟩⟩⟩
  ·rw[Aa a,← f,List.getElem?_take,if_pos (by omega)]
   simp
  ·rw[Array.toList_setIfInBounds,List.take_set,f]
theorem He {w:World}{B:Nat}{e:TypeId}{size n:Nat}{v:Value}{xs:List Value}(h:w.ownsRow B e size v n xs)(b:Nat)(cs:Array Value)(i:b<B):(w.setRow b cs).ownsRow B e size v n xs:=by
 refine⟨h.1,?_⟩;rcases h.2 with a|⟨g,cap,cur,c,d,f,r⟩
 ·exact .inl a
 ·exact .inr ⟨g,cap,cur,c,d,by rw[Ae _ _ _ _ (by omega)];exact f,r⟩
def De (n:Nat)(w:World)(T:TypeId)(A:Option Addr):Prop:=∀ ad,A=some ad→n≤ad.block∧∃ cs fr,w.heap[ad.block]? =some (.cells cs T fr)
theorem De.mono {n m:Nat}{w:World}{T:TypeId}{A:Option Addr}(h:De n w T A)(b:m≤n):De m w T A:=fun a e=>⟨Nat.le_trans b (h a e).1,(h a e).2⟩
theorem De.below {n:Nat}{w w':World}{T:TypeId}{A:Option Addr}(h:De n w T A)(a:Bw w w'):De n w' T A:=fun b e=>by
 obtain⟨c,cs,d,f⟩:=h b e;exact⟨c,cs,d,Af f a⟩
theorem De.own {w:World}{B:Nat}{T:TypeId}{size n c:Nat}{A:Option Addr}{xs:List Value}(h:w.ownsRow B T size (.slice A n c) n xs):De B w T A:=by
 intro i a;rcases h.2 with⟨b,_⟩|⟨g,cap,cur,b,e,f,_⟩
 ·injection b with d;rw[d]at a;cases a
 ·injection b with d;rw[d]at a;injection a with a;rw[← a];exact⟨e,cur,_,f⟩
theorem De.row {n:Nat}{w:World}{T:TypeId}{A:Option Addr}(h:De n w T A)(b:Nat)(cs:Array Value):De n (w.setRow b cs) T A:=fun c e=>by
 obtain⟨i,a,d,f⟩:=h c e;refine⟨i,?_⟩
 by_cases g:c.block=b
 ·subst g;exact⟨cs,d,setRow_heap _ _ _ _ _ _ f⟩
 ·exact⟨a,d,(Ae _ _ _ _ g).trans f⟩
theorem De.set {n:Nat}{w:World}{T:TypeId}{A:Option Addr}(h:De n w T A)(b j:Nat)(v:Value):De n (w.setCell ⟨b,j,none⟩ v) T A:=fun c e=>by
 obtain⟨i,a,d,f⟩:=h c e;refine⟨i,?_⟩
 by_cases g:c.block=b
 ·subst g;exact⟨_,d,Cp j f v⟩
 ·exact⟨a,d,(Below.heap_setCell _ _ _ _ g).trans f⟩
theorem De.apart {n lo hi:Nat}{w v:World}{T:TypeId}{A:Option Addr}(h:De n w T A)(c:E2 lo hi w v)(i:hi≤n):De n v T A:=fun d e=>by
 obtain⟨f,a,g,b⟩:=h d e;exact⟨f,a,g,(c.block _ (Bt b) (.inr (by omega))).trans b⟩
theorem De.Ia {n k c b:Nat}{w:World}{T t:TypeId}{A:Option Addr}{vs:List Value}{cur:Array Value}{fr:Nat×Nat}(h:De n w T A)(f:Reads w A c k vs)(g:w.heap[b]? =some (.cells cur t fr))(d:t≠T)(cs:Array Value):Reads (w.setRow b cs) A c k vs:=
 f.bQ b cs (fun _ i e=>by
  intro j;obtain⟨_,l,yZ,a⟩:=h i e;rw[j,g]at a
  injection a with a
  injection a with _ a
  exact d a)
theorem iJ {P:Program}{ops:Array Oper}{rest:List Oper}{op:Oper}{a:Act}{w:World}{Q:Exit→Act→World→Prop}(d:Region.wanted op (yielded ops a.tmps)=true)(ty:TypeId)(x y:Operand)(e:op.op= .store ty x y)
 (b:Nat) (cells cur:Array Value) (t:TypeId) (f:a.eval x= .pointer (some ⟨b,0,none⟩)) (hy:a.eval y= .agg cells) (g:w.heap[b]? =some (.cells cur t (0,0))) (c:cur.size=cells.size)
 (hi:(P.info? ty).map (·.size)=some cells.size) (i:cells.all (·.oneCell')=true) (h:wpList P ops Q rest (a.put op.dst undef) (w.setRow b cells)):wpList P ops Q (op::rest) a w:=
 Da d fun _ j=>Jb ty x y e b cells cur t f hy g c hi i (j _ _ h)
theorem lS {P:Program}{ops:Array Oper}{rest:List Oper}{op:Oper}{a:Act}{w:World}{Q:Exit→Act→World→Prop}{ty:TypeId}{x y:Operand}{b:Nat}(cells:Array Value){cur:Array Value}{t:TypeId}(c:w.heap[b]? =some (.cells cur t (0,0)))(h:wpList P ops Q rest (a.put op.dst undef) (w.setRow b cells))(d:op.op= .store ty x y:=by exact rfl)(e:a.eval x= .pointer (some ⟨b,0,none⟩):=by with_unfolding_all exact rfl)(hy:a.eval y= .agg cells:=by with_unfolding_all exact rfl)(f:Region.wanted op (yielded ops a.tmps)=true:=by kernel_rfl)(g:cur.size=cells.size:=by kernel_rfl)(hi:(P.info? ty).map (·.size)=some cells.size:=by kernel_rfl)(i:cells.all (·.oneCell')=true:=by kernel_rfl):wpList P ops Q (op::rest) a w:=iJ f ty x y d b cells cur t e hy c g hi i h
theorem Ka {P:Program}{fn:Func}{p q:Tmp}{ty:TypeId}(h:fn.results=#[.cell p ty,.tmp q])(tmps:Array Value)(w:World){a:Addr}(d:tmps.getD p undef= .pointer (some a)){v:Value}(e:(loadVar ty a).run P w= .ok v w){v2:Value}(f:tmps.getD q undef=v2):
 (results fn tmps).run P w= .ok (.tuple #[v,v2]) w:=by
 simp only[results,h];have b:tmps[p]?.getD undef= .pointer (some a):=by simpa using d
 have c:tmps[q]?.getD undef=v2:=by simpa using f
 simp[Result.andThen,b,c,asAddr,e]
theorem rT1 {P:Program}{fn:Func}{R:Ending→World→Prop}{a:Act}{w:World}{p:Tmp}{ty t:TypeId}{b:Nat}{By cs:Array Value}{d:TypeDesc}(H:w.heap[b]? =some (.cells By t (0,0)))(hu:P.underlying ty=some d)(h:R (.returned (.agg cs)) (w.setRow b cs))(hr:fn.results= #[.cell p ty]:=by rfl)(hp:a.tmps.getD p undef= .pointer (some ⟨b,0,none⟩):=by rfl)(hd:d.isRow=true:=by kernel_rfl)(hn:(P.info? ty).map (·.size)=some cs.size:=by kernel_rfl)(hf:a.defers=[]:=by rfl):bodyPost P fn R .ret a (w.setRow b cs):=bodyPost_ret (Wb hr _ _ hp (Cf (setRow_heap _ _ _ cs _ _ H) hu hd hn)) hf h
theorem rT2 {P:Program}{fn:Func}{R:Ending→World→Prop}{a:Act}{w:World}{p q:Tmp}{ty t:TypeId}{b:Nat}{By cs:Array Value}{d:TypeDesc}(v2:Value)(H:w.heap[b]? =some (.cells By t (0,0)))(hu:P.underlying ty=some d)(h:R (.returned (.tuple #[.agg cs,v2])) (w.setRow b cs))(hr:fn.results= #[.cell p ty,.tmp q]:=by rfl)(hq:a.tmps.getD q undef=v2:=by rfl)(hp:a.tmps.getD p undef= .pointer (some ⟨b,0,none⟩):=by rfl)(hd:d.isRow=true:=by kernel_rfl)(hn:(P.info? ty).map (·.size)=some cs.size:=by kernel_rfl)(hf:a.defers=[]:=by rfl):bodyPost P fn R .ret a (w.setRow b cs):=bodyPost_ret (Ka hr _ _ hp (Cf (setRow_heap _ _ _ cs _ _ H) hu hd hn) hq) hf h
theorem Nt {P:Program}{fn:Func}{p q r:Tmp}{ty:TypeId}(h:fn.results=#[.cell p ty,.tmp q,.tmp r])(tmps:Array Value)(w:World){a:Addr}(e:tmps.getD p undef= .pointer (some a)){v:Value}(f:(loadVar ty a).run P w= .ok v w){v2 v3:Value}(g:tmps.getD q undef=v2)(i:tmps.getD r undef=v3):
 (results fn tmps).run P w= .ok (.tuple #[v,v2,v3]) w:=by
 simp only[results,h];have b:tmps[p]?.getD undef= .pointer (some a):=by simpa using e
 have c:tmps[q]?.getD undef=v2:=by simpa using g
 have d:tmps[r]?.getD undef=v3:=by simpa using i
 simp[Result.andThen,b,c,d,asAddr,f]
theorem rT3 {P:Program}{fn:Func}{R:Ending→World→Prop}{a:Act}{w:World}{p q r:Tmp}{ty t:TypeId}{b:Nat}{By cs:Array Value}{d:TypeDesc}(v2 v3:Value)(H:w.heap[b]? =some (.cells By t (0,0)))(hu:P.underlying ty=some d)(h:R (.returned (.tuple #[.agg cs,v2,v3])) (w.setRow b cs))(hr:fn.results= #[.cell p ty,.tmp q,.tmp r]:=by rfl)(hq:a.tmps.getD q undef=v2:=by rfl)(hs:a.tmps.getD r undef=v3:=by rfl)(hp:a.tmps.getD p undef= .pointer (some ⟨b,0,none⟩):=by rfl)(hd:d.isRow=true:=by kernel_rfl)(hn:(P.info? ty).map (·.size)=some cs.size:=by kernel_rfl)(hf:a.defers=[]:=by rfl):bodyPost P fn R .ret a (w.setRow b cs):=bodyPost_ret (Nt hr _ _ hp (Cf (setRow_heap _ _ _ cs _ _ H) hu hd hn) hq hs) hf h
theorem Ex {P:Program}{fn:Func}{p q r:Tmp}{ty b:TypeId}(h:fn.results=#[.cell p ty,.cell q b,.tmp r])(tmps:Array Value)(w:World){c a:Addr}(i:tmps.getD p undef= .pointer (some c))(j:tmps.getD q undef= .pointer (some a)){v v2:Value}(k:(loadVar ty c).run P w= .ok v w)(d:(loadVar b a).run P w= .ok v2 w){v3:Value}(l:tmps.getD r undef=v3):
 (results fn tmps).run P w= .ok (.tuple #[v,v2,v3]) w:=by
 simp only[results,h];have e:tmps[p]?.getD undef= .pointer (some c):=by simpa using i
 have f:tmps[q]?.getD undef= .pointer (some a):=by simpa using j
 have g:tmps[r]?.getD undef=v3:=by simpa using l
 simp[Result.andThen,e,f,g,asAddr,k,d]
end Go.Proofs.YtmfkhdhnbkambaaGreatDoor
namespace Go
section
variable {P : Program} {ops : Array Oper} {Q : Exit → Act → World → Prop} {md : Region.Mode} {S : World → Prop} {z : Nat}
def Ki (md:Region.Mode)(ops:Array Oper)(l:Array Bool):Prop:=
 ∀ j o,ops[j]? =some o→l.getD j false=true→∀ e∈o.after,Region.binds md e=true→l.getD e.on false=true
def Kj (md:Region.Mode)(ops:Array Oper)(l:Array Bool):Bool:=
 (List.range ops.size).all fun j=> !l.getD j false||match ops[j]? with
   |none=>true
   |some o=>o.after.all fun e=> !Region.binds md e||l.getD e.on false
theorem Yh {l:Array Bool}(h:Kj md ops l=true):Ki md ops l:=by
 intro j o b d e f g;unfold Kj at h;rw[List.all_eq_true]at h;have a:=h j (List.mem_range.2 (Array.getElem?_eq_some_iff.1 b).1);rw[b,d]at a;simp only[Bool.not_true,Bool.false_or]at a;have c:=Array.all_eq_true_iff_forall_mem.1 a e f;rw[g]at c
 simpa using c
theorem Pm {l:Array Bool}{i:Nat}(h:l.getD i true=false):l.getD i false=false:=by
 rcases Nat.lt_or_ge i l.size with h'|h'
 ·simp[h']at h ⊢;exact h
 ·simp[Array.getElem?_eq_none h']at h
theorem Wd {l:Array Bool}{i:Nat}(h:l.getD i true=false):(l.setIfInBounds i true).getD i false=true:=by
 rcases Nat.lt_or_ge i l.size with h'|h'
 ·simp[h']
 ·simp[Array.getElem?_eq_none h']at h
theorem Oo {l:Array Bool}{j:Nat}(h:Ki md ops l)(i:j∈Region.ready md ops l):Ki md ops (l.setIfInBounds j true):=by
 obtain⟨m,n,c,a⟩:=mem_ready.1 i;intro k o hk d e f g
 by_cases b:j=k
 ·subst b
  rw[c]at hk
  injection hk with hk
  subst hk;exact getD_set_true (a e f g)
 ·rw[getD_set_ne false b]at d
  exact getD_set_true (h k o hk d e f g)
def fE (md:Region.Mode)(ops:Array Oper):List Nat→Bool
 |[]=>true
 |[_]=>true
 |a::b::r=>(match ops[b]? with
  |none=>false
  |some o=>o.after.any fun e=>Region.binds md e&&e.on==a)&&fE md ops (b::r)
theorem Yi {l:Array Bool}(g:Ki md ops l):∀ (p:List Nat) (a:Nat),fE md ops (a::p)=true→l.getD ((a::p).getLast (by simp)) false=true→l.getD a false=true:=by
 intro p
 induction p with
 |nil=>intro a _ h;simpa using h
 |cons b r ih=>
  intro a c i;unfold fE at c;rw[Bool.and_eq_true]at c;have j:=ih b c.2 (by simpa using i)
  cases d:ops[b]? with
  |none=>rw[d]at c;simp at c
  |some o=>
   rw[d]at c;obtain⟨e,k,f⟩:=Array.any_eq_true'.1 c.1;rw[Bool.and_eq_true]at f;have m:=g b o d j e k f.1
   rwa[show e.on=a by simpa using f.2]at m
def leads (md:Region.Mode)(ops:Array Oper)(i:Nat)(p:List Nat)(z:Nat):Bool:=fE md ops (i::p)&&(i::p).getLast (by simp)==z&&i != z
theorem iK {l:Array Bool}{i:Nat}{p:List Nat}(h:leads md ops i p z=true)(d:Ki md ops l)(hi:l.getD i true=false):z∉Region.ready md ops l:=by
 unfold leads at h;rw[Bool.and_eq_true,Bool.and_eq_true]at h;obtain⟨⟨f,g⟩,b⟩:=h;intro c;have j:=Oo d c;have a:=Yi j p i f (by rw[show(i::p).getLast (by simp)=z by simpa using g];exact Wd (mem_ready.1 c).1);rw[getD_set_ne false (by simp at b;exact fun e=>b e.symm)]at a;rw[Pm hi]at a
 cases a
def E3 (P:Program)(md:Region.Mode)(ops:Array Oper)(Q:Exit→Act→World→Prop)(S:World→Prop)(z:Nat):Nat→Array Bool→Act→World→Prop
 |0,listed,a,w=>Region.ready md ops listed=[]∧Q .normal a w
 |fuel+1,listed,a,w=>
  (Region.ready md ops listed=[]→Q .normal a w)∧
  ∀ i∈Region.ready md ops listed,wpOp P ops Q i (fun a' w'=>((listed.setIfInBounds i true).getD z true=false→S w')∧E3 P md ops Q S z fuel (listed.setIfInBounds i true) a' w') a w
theorem Rr:∀ (fuel:Nat) (listed:Array Bool) (a:Act) (w:World),E3 P md ops Q S z fuel listed a w→wpAny P md ops Q fuel listed a w
 |0,_,_,_,h=>h
 |fuel+1,_,_,_,h=>⟨h.1,fun i hi=>wpOp_mono (fun a' w' h'=>Rr fuel _ a' w' h'.2) (h.2 i hi)⟩
theorem We {i:Nat}{oi:Oper}{v:Value}{p:List Nat}(hi:ops[i]? =some oi)(l:∀ (j:Nat) (o:Oper) cs b,ops[j]? =some o→o.op≠ .select cs b)
 (N:∀ c a w,Q (.panic c) (a.put oi.dst v) w→Q (.panic c) a w) (F:leads md ops i p z=true):
 ∀ (fuel:Nat) (listed:Array Bool) (a:Act) (w:World),Ki md ops listed→listed.getD z true=false→
  (∀ j oj,ops[j]? =some oj→j≠i→listed.getD j true=false→(∀ e∈oj.after,Region.binds md e=true→e.on≠i)→oi.apart ops oj=true)→
  i∈Region.ready md ops listed→YieldsIf P ops S oi v a→S w→
  E3 P md ops Q S z fuel (listed.setIfInBounds i true) (a.put oi.dst v) w→E3 P md ops Q S z (fuel+1) listed a w:=by
 have I:i≠z:=by
  unfold leads at F;rw[Bool.and_eq_true]at F
  simpa using F.2
 intro fuel
 induction fuel with
 |zero=>
  intro listed a w _ q _ m G t H;refine⟨fun h=>(by rw[h]at m;cases m),fun j s=>?_⟩
  by_cases d:j=i
  ·subst d;exact G.wpOp hi t ⟨fun _=>t,H⟩
  ·have:=ready_mono s d
   rw[H.1]at this
   cases this
 |succ fuel ih=>
  intro listed a w u q f m G t H;refine⟨fun h=>(by rw[h]at m;cases m),fun j s=>?_⟩
  by_cases d:j=i
  ·subst d;exact G.wpOp hi t ⟨fun _=>t,H⟩
  ·have x:j≠z:=fun e=>iK F u (mem_ready.1 m).1 (e▸s)
   have y:=H.2 j (ready_mono s d);obtain⟨n,oj,r,A⟩:=mem_ready.1 s;have B:∀ e∈oj.after,Region.binds md e=true→e.on≠i:=fun e O R J=>by
    have y:=A e O R;have T:=(mem_ready.1 m).1;rw[J]at y;rw[Pm T]at y
    cases y
   have U:=wpOp_putIf r (f j oj r d n B) (fun cs b=>l i oi cs b hi) (fun cs b=>l j oj cs b r) N G y;have g:∀ k ok,ops[k]? =some ok→k≠i→(listed.setIfInBounds j true).getD k true=false→
    (∀ e∈ok.after,Region.binds md e=true→e.on≠i)→oi.apart ops ok=true:=fun k ok hk K C L=>by
    refine f k ok hk K ?_ L
    by_cases D:j=k
    ·subst D;exact n
    ·rw[getD_set_ne true D]at C;exact C
   refine wpOp_mono (fun V w' M=>?_) U;have E:S w':=M.2.1 (by rw[getD_set_ne true x,getD_set_ne true I];exact q);refine⟨fun _=>E,ih (listed.setIfInBounds j true) V w' (Oo u s) (by rw[getD_set_ne true x];exact q) g (ready_mono m (Ne.symm d)) M.1 E ?_⟩;rw[Array.setIfInBounds_comm _ _ d];exact M.2.2
theorem Aw {i:Nat}{oi:Oper}{v:Value}{p:List Nat}{fuel:Nat}{listed:Array Bool}{a:Act}{w:World}(hi:ops[i]? =some oi)
 (e:leads md ops i p z=true) (b:Kj md ops listed=true) (d:listed.getD z true=false)
 (f:Region.noSelect ops=true) (g:Region.free md ops listed i=true) (j:(Region.ready md ops listed).contains i=true)
 (k:∀ c a w,Q (.panic c) (a.put oi.dst v) w→Q (.panic c) a w) (hy:YieldsIf P ops S oi v a) (l:S w)
 (h:E3 P md ops Q S z fuel (listed.setIfInBounds i true) (a.put oi.dst v) w):E3 P md ops Q S z (fuel+1) listed a w:=
 We hi (Region.noSelect_spec f) k e fuel listed a w (Yh b) d (Region.free_spec hi g) (by simpa using j) hy l h
theorem mR {op:Op}{ty:TypeId}{pos:String}{b:Array Edge}{g:Option (Nat×Bool)}{v:Value}{fuel:Nat}{listed:Array Bool}{a a':Act}{w:World}{d:Option Nat}(i:Nat)(p:List Nat)(h:E3 P md ops Q S z fuel (listed.setIfInBounds i true) a' w)(hi:ops[i]? =some ⟨d,op,ty,pos,b,g⟩:=by rfl)
 (hy:∀ w,S w→(execOp a.eval ⟨d,op,ty,pos,b,g⟩).run P w= .ok (.value v) w:=by
  intro u hSu
  try have hSz:=Hy.out u hSu
  try have hSv:=bC hSu
  try
   have hSa:=bC hSu.1;have hSb:=bC hSu.2
  clear hSu
  go_simp
  try with_reducible rfl)
 (j:a.put d v=a':=by exact Na)
 (k:Region.wanted ⟨d,op,ty,pos,b,g⟩ (yielded ops a.tmps)=true:=by rfl) (l:S w:=by assumption) (m:leads md ops i p z=true:=by kernel_rfl) (e:Kj md ops listed=true:=by kernel_rfl) (f:listed.getD z true=false:=by kernel_rfl) (n:Region.noSelect ops=true:=by kernel_rfl) (o:Region.free md ops listed i=true:=by kernel_rfl) (q:(Region.ready md ops listed).contains i=true:=by kernel_rfl) (r:∀ c a w,Q (.panic c) (a.put d v) w→Q (.panic c) a w:=by exact fun _ _ _ h=>h):
 E3 P md ops Q S z (fuel+1) listed a w:=Aw hi m e f n o q r (.inl ⟨k,hy⟩) l (j▸h)
theorem zG {x:Operand}{cs:Array Value}{t:TypeId}{fr:Nat×Nat}{b:Nat}{T:TypeDesc}{e:TypeId}{ty:TypeId}{pos:String}{f:Array Edge}{g:Option (Nat×Bool)}{fuel:Nat}{listed:Array Bool}{a a':Act}{w:World}{d:Option Nat}(i:Nat)(p:List Nat)(k:P.underlying e=some T)(h:E3 P md ops Q S z fuel (listed.setIfInBounds i true) a' w)(hi:ops[i]? =some ⟨d,.load e x,ty,pos,f,g⟩:=by rfl)
 (n:a.eval x= .pointer (some ⟨b,0,none⟩):=by rfl)
 (o:∀ u,S u→u.heap[b]? =some (.cells cs t fr):=by first|exact fun _ h=>h|exact fun _ h=>h.1|exact fun _ h=>h.2)
 (q:a.put d (.agg cs)=a':=by exact Na)
 (r:Region.wanted ⟨d,.load e x,ty,pos,f,g⟩ (yielded ops a.tmps)=true:=by rfl) (s:T.isRow=true:=by kernel_rfl) (y:(P.info? e).map (·.size)=some cs.toList.length:=by kernel_rfl) (A:S w:=by assumption) (B:leads md ops i p z=true:=by kernel_rfl) (l:Kj md ops listed=true:=by kernel_rfl) (m:listed.getD z true=false:=by kernel_rfl) (C:Region.noSelect ops=true:=by kernel_rfl) (D:Region.free md ops listed i=true:=by kernel_rfl) (E:(Region.ready md ops listed).contains i=true:=by kernel_rfl) (F:∀ c a w,Q (.panic c) (a.put d (.agg cs)) w→Q (.panic c) a w:=by exact fun _ _ _ h=>h):
 E3 P md ops Q S z (fuel+1) listed a w:=Aw hi B l m C D E F (yieldsIf_load_mid r e x rfl b 0 n cs.toList T (fun u k=>by intro j v G;rw[Nat.zero_add,bC (o u k)];simpa using G) k s y) A (q▸h)
theorem Ft {listed:Array Bool}{a:Act}{w:World}(hr:Region.ready md ops listed=[])(h:Q .normal a w):
 ∀ fuel,E3 P md ops Q S z fuel listed a w
 |0=>⟨hr,h⟩
 |_+1=>⟨fun _=>h,by rw[hr];simp⟩
def Au (P:Program)(md:Region.Mode)(ops:Array Oper)(Q:Exit→Act→World→Prop)(S:World→Prop)(z fuel:Nat)(listed:Array Bool)(a:Act)(w:World)(rs:List Nat):Prop:=
 ∀ i∈rs,wpOp P ops Q i (fun a' w'=>((listed.setIfInBounds i true).getD z true=false→S w')∧E3 P md ops Q S z fuel (listed.setIfInBounds i true) a' w') a w
theorem Au.nil {fuel:Nat}{listed:Array Bool}{a:Act}{w:World}:Au P md ops Q S z fuel listed a w []:=fun _ h=>by cases h
theorem Au.cons {fuel:Nat}{listed:Array Bool}{a:Act}{w:World}{i:Nat}{o:Oper}{rs:List Nat}(c:ops[i]? =some o)
 (h:∀ K':Act→World→Prop,Shut (∀ a w,S w→(S w→E3 P md ops Q S z fuel (listed.setIfInBounds i true) a w)→K' a w)→if Region.wanted o (yielded ops a.tmps)=true then Oper.wp P o a w K' Q else K' (a.put o.dst undef) w)
 (d:Au P md ops Q S z fuel listed a w rs):Au P md ops Q S z fuel listed a w (i::rs):=fun j hj=>by
 rcases List.mem_cons.1 hj with rfl|hj
 ·exact wpOp_step c (fun K' e=>h K' (fun a w b f=>e a w ⟨fun _=>b,f b⟩))
 ·exact d j hj
theorem Au.last {fuel:Nat}{listed:Array Bool}{a:Act}{w:World}{i:Nat}{o:Oper}{rs:List Nat}(c:ops[i]? =some o)(d:(listed.setIfInBounds i true).getD z true=true)
 (h:∀ K':Act→World→Prop,Shut (∀ a w,E3 P md ops Q S z fuel (listed.setIfInBounds i true) a w→K' a w)→if Region.wanted o (yielded ops a.tmps)=true then Oper.wp P o a w K' Q else K' (a.put o.dst undef) w)
 (e:Au P md ops Q S z fuel listed a w rs):Au P md ops Q S z fuel listed a w (i::rs):=fun j hj=>by
 rcases List.mem_cons.1 hj with rfl|hj
 ·exact wpOp_step c (fun K' f=>h K' (fun a w g=>f a w ⟨fun b=>(by rw[d]at b;cases b),g⟩))
 ·exact e j hj
theorem Bo {rs:List Nat}{fuel:Nat}{listed:Array Bool}{a:Act}{w:World}(c:Region.ready md ops listed=rs)(b:rs≠[])
 (h:Au P md ops Q S z fuel listed a w rs):E3 P md ops Q S z (fuel+1) listed a w:=
 ⟨fun d=>absurd (c▸d) b,c▸h⟩
theorem Fu {id:Nat}{a:Act}{w:World}(z:Nat)(b:P.follows .mixedOrders=true)(c:S w.drew)
 (h:S w.drew→E3 P .any ops Q S z ops.size (Array.replicate ops.size false) a w.drew):(Code.region id ops true).wp P Q a w:=
 wp_region_any b (Rr _ _ _ _ (h c))
end
end Go
