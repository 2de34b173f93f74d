import Derived.Test.YtilakddepaplhaaGreatHb00
import Derived.Test.YtilakddepaplhaaGreatHb07
import Derived.Test.YtilakddepaplhaaGreatHb09
import Derived.Test.YtilakddepaplhaaGreatHb12
import Derived.Test.YtilakddepaplhaaGreatHb01
import Derived.BigRegion
set_option maxRecDepth 100000
set_option maxHeartbeats 16000000
set_option linter.unusedSimpArgs false
namespace Lg
open Rc
def logS (F N:Nat)(d:Dk):List UInt8:=flat ((d.sectors.drop F).take N)
theorem logS_len {F N:Nat}{d:Dk}(hw:Whole d.sectors)(hr:F+N≤d.sectors.length):(logS F N d).length=N*128:=by
 unfold logS
 rw[flat_len ((hw.drop F).take N),List.length_take,List.length_drop]
 congr 1;omega
theorem set_part {L:List ByteArray}{F N j:Nat}{b:ByteArray}(hj:j<N):((L.set (F+j) b).drop F).take N=((L.drop F).take N).set j b:=by
 refine List.ext_getElem? fun i=>?_
 simp only[List.getElem?_take,List.getElem?_drop,List.getElem?_set,List.length_take,List.length_drop]
 by_cases h1:i<N
 ·by_cases h2:i=j
  ·subst h2
   simp only[if_pos h1,if_pos]
   by_cases h3:F+i<L.length
   ·rw[if_pos h3,if_pos (by omega)]
   ·rw[if_neg h3,if_neg (by omega)]
  ·simp only[if_pos h1]
   rw[if_neg (by omega),if_neg (by omega)]
 ·rw[if_neg h1]
  rw[if_neg (by omega),if_neg h1]
theorem flat_cutW (n:Nat):∀ l:List UInt8,l.length≤n→flat (cutW l)=l++List.replicate ((cutW l).length*128-l.length) 0:=by
 induction n with
 |zero=>
  intro l hl
  rw[List.eq_nil_of_length_eq_zero (l:=l) (by omega),cutW_nil];rfl
 |succ n ih=>
  intro l hl
  by_cases h:l=[]
  ·rw[h,cutW_nil];rfl
  ·have h0:0<l.length:=by cases l with
    |nil=>contradiction
    |cons a l=>simp
   have hd:(pad128 (l.take 128)).data.toList=l.take 128++List.replicate (128-(l.take 128).length) 0:=by unfold pad128;rfl
   rw[cutW_cons h,flat_cons,hd,ih _ (by rw[List.length_drop];omega),List.length_cons]
   have hcl:=cutW_length _ (l.drop 128) (Nat.le_refl _)
   by_cases hs:l.length≤128
   ·have e1:l.drop 128=[]:=List.drop_eq_nil_of_le hs
    rw[e1,cutW_nil,List.take_of_length_le hs]
    simp
   ·have e1:(l.take 128).length=128:=by rw[List.length_take];omega
    rw[e1,Nat.sub_self,List.replicate_zero,List.append_nil,← List.append_assoc,List.take_append_drop,List.length_drop]
    rw[List.length_drop]at hcl
    have e2:(cutW (l.drop 128)).length*128-(l.length-128)=((cutW (l.drop 128)).length+1)*128-l.length:=by omega
    rw[e2]
theorem flat_one:flat [zero128]=List.replicate 128 0:=by
 have h:∀ l:List UInt8,flat [⟨l.toArray⟩]=l:=fun l=>by unfold flat;simp
 exact h _
theorem piece_of {L:List ByteArray}(h:Whole L)(i:Nat)(hi:i<L.length):(L[i]?.getD ⟨#[]⟩).data.toList=((flat L).drop (i*128)).take 128∧(L[i]?.getD ⟨#[]⟩).size=128:=by
 rw[List.getElem?_eq_getElem hi,Option.getD_some]
 refine⟨?_,h _ (List.getElem_mem hi)⟩
 rw[← flat_drop h,List.drop_eq_getElem_cons hi,flat_cons,List.take_left' (by have:=h _ (List.getElem_mem hi);simpa using this)]
structure LInv (F N:Nat) (d:Dk) (g:Lo) (r1 r2:List Rec):Prop where
 whole:Whole d.sectors
 room:F+N≤d.sectors.length
 hf:g.from_=(F:Int)
 hn:g.n=(N:Int)
 row:Row 0 (r1++r2)
 pre:(logS F N d).take (bytes r1).length=bytes r1
 safe:g.safe=((bytes r1).length:Int)
 end_:g.end_=((bytes (r1++r2)).length:Int)
 tail:g.tail=⟨((bytes (r1++r2)).drop ((bytes r1).length-(bytes r1).length%128)).toArray⟩
 fit:(bytes (r1++r2)).length≤N*128
theorem bytes_le (r1 r2:List Rec):(bytes (r1++r2)).length=(bytes r1).length+(bytes r2).length:=by rw[bytes_append,List.length_append]
theorem bytes_one (r:Rec):bytes [r]=putR r:=by unfold bytes;simp
theorem bytes_nil {l:List Rec}(h:(bytes l).length=0):l=[]:=by
 cases l with
 |nil=>rfl
 |cons r l=>rw[bytes_cons,List.length_append,putR_len]at h;omega
theorem LInv.tail_size {F N:Nat}{d:Dk}{g:Lo}{r1 r2:List Rec}(h:LInv F N d g r1 r2):(g.tail.size:Int)=g.end_-(((bytes r1).length/128*128:Nat):Int):=by
 have h1:=bytes_le r1 r2
 rw[h.tail,h.end_]
 show((((bytes (r1++r2)).drop ((bytes r1).length-(bytes r1).length%128)).toArray.size:Nat):Int)=_
 rw[List.size_toArray,List.length_drop]
 omega
theorem LInv.new {F N:Nat}{d:Dk}(hw:Whole d.sectors)(hr:F+N≤d.sectors.length):LInv F N d ⟨F,N,0,0,⟨#[]⟩⟩ [] []:=
 ⟨hw,hr,rfl,rfl,trivial,rfl,rfl,rfl,rfl,Nat.zero_le _⟩
theorem LInv.append {F N:Nat}{d:Dk}{g:Lo}{r1 r2:List Rec}(h:LInv F N d g r1 r2)(r:Rec):
 (appendD g r=(g,0,1))∨(appendD g r=(g,0,18))∨
 ((appendD g r).2=(g.end_+1,0)∧LInv F N d (appendD g r).1 r1 (r2++[{r with lsn:=g.end_+1}])):=by
 by_cases h1:Right {r with lsn:=g.end_+1}
 ·by_cases h2:g.n*128-((putR {r with lsn:=g.end_+1}).length:Int)<g.end_
  ·refine .inr (.inl ?_)
   unfold appendD;simp only;rw[if_neg (fun hn=>hn h1),if_pos h2]
  ·refine .inr (.inr ?_)
   have e:appendD g r=({g with end_:=g.end_+((putR {r with lsn:=g.end_+1}).length:Int),tail:=g.tail++⟨(putR {r with lsn:=g.end_+1}).toArray⟩},g.end_+1,0):=by
    unfold appendD;simp only;rw[if_neg (fun hn=>hn h1),if_neg h2]
   rw[e]
   refine⟨rfl,?_⟩
   have hb:bytes (r1++(r2++[{r with lsn:=g.end_+1}]))=bytes (r1++r2)++putR {r with lsn:=g.end_+1}:=by
    rw[← List.append_assoc,bytes_append (r1++r2),bytes_one]
   refine⟨h.whole,h.room,h.hf,h.hn,?_,h.pre,h.safe,?_,?_,?_⟩
   ·rw[← List.append_assoc,row_append]
    refine⟨h.row,h1,?_,trivial⟩
    show g.end_+1=_
    rw[h.end_];simp
   ·show g.end_+_=_
    rw[hb,List.length_append,h.end_];omega
   ·show g.tail++_=_
    have h3:=bytes_le r1 r2
    rw[hb,h.tail,List.drop_append_of_le_length (by omega)]
    apply ByteArray.ext
    rw[ByteArray.data_append]
    simp
   ·rw[hb,List.length_append]
    have h4:=h.hn
    have h5:=h.end_
    omega
 ·refine .inl ?_
  unfold appendD;simp only;rw[if_pos h1]
structure Sects (F N f:Nat) (s n t:List UInt8) (all:List ByteArray):Prop where
 whole:Whole all
 fits:f+all.length≤N
 some_:0<all.length
 flat_:n=s.take (f*128)++(flat all++s.drop ((f+all.length)*128))
 len:s.length=N*128
theorem Sects.nlen {F N f:Nat}{s n t:List UInt8}{all:List ByteArray}(h:Sects F N f s n t all):n.length=N*128:=by
 have h1:=h.fits
 have h2:=h.len
 rw[h.flat_,List.length_append,List.length_append,flat_len h.whole,List.length_take,List.length_drop]
 omega
theorem Sects.piece {F N f:Nat}{s n t:List UInt8}{all:List ByteArray}(h:Sects F N f s n t all)(i:Nat)(hi:i<all.length):(all[i]?.getD ⟨#[]⟩).data.toList=(n.drop ((f+i)*128)).take 128∧(all[i]?.getD ⟨#[]⟩).size=128:=by
 obtain⟨h1,h2⟩:=piece_of h.whole i hi
 refine⟨?_,h2⟩
 have h3:=h.fits
 have h4:=h.len
 have h5:=flat_len h.whole
 rw[h1,h.flat_,show(f+i)*128=f*128+i*128 by omega,← List.drop_drop,List.drop_left' (by rw[List.length_take];omega),List.drop_append_of_le_length (by omega),List.take_append_of_le_length (by rw[List.length_drop];omega)]
theorem Sects.start {F N f:Nat}{s n t:List UInt8}{all:List ByteArray}(h:Sects F N f s n t all):mix s n ((f+all.length)*128)=s:=by
 have h3:=h.fits
 have h4:=h.len
 have h5:=flat_len h.whole
 unfold mix
 rw[h.flat_,← List.append_assoc,List.drop_left' (by rw[List.length_append,List.length_take];omega),List.take_append_drop]
theorem Sects.all_ {F N f:Nat}{s n t:List UInt8}{all:List ByteArray}(h:Sects F N f s n t all):mix s n (f*128)=n:=by
 refine mix_eq (by rw[h.len,h.nlen]) fun i hi=>?_
 have h3:=h.fits
 have h4:=h.len
 rw[h.flat_,List.getElem?_append_left (by rw[List.length_take];omega),List.getElem?_take,if_pos hi]
theorem putAll_mix {F N f:Nat}{s n t:List UInt8}{all:List ByteArray}(hS:Sects F N f s n t all):∀ (i:Nat),i≤all.length→∀ d:Dk,Whole d.sectors→F+N≤d.sectors.length→d.down=false→-1≤d.left→logS F N d=mix s n ((f+i)*128)→
 ((putAll ((F:Int)+f) all i d).2=0∧(putAll ((F:Int)+f) all i d).1.down=false∧-1≤(putAll ((F:Int)+f) all i d).1.left∧(d.left= -1→(putAll ((F:Int)+f) all i d).1.left= -1)∧logS F N (putAll ((F:Int)+f) all i d).1=mix s n (f*128)∧Whole (putAll ((F:Int)+f) all i d).1.sectors∧(putAll ((F:Int)+f) all i d).1.sectors.length=d.sectors.length)∨
 ((putAll ((F:Int)+f) all i d).2=20∧d.left≠-1∧(∃ q,logS F N (putAll ((F:Int)+f) all i d).1=mix s n q)∧Whole (putAll ((F:Int)+f) all i d).1.sectors∧(putAll ((F:Int)+f) all i d).1.sectors.length=d.sectors.length):=by
 intro i
 induction i with
 |zero=>
  intro _ d hw hr hd hl hs
  exact .inl ⟨rfl,hd,hl,fun h=>h,by unfold putAll;exact hs,hw,rfl⟩
 |succ i ih=>
  intro hi d hw hr hd hl hs
  obtain⟨hp1,hp2⟩:=hS.piece i (by omega)
  have hfit:=hS.fits
  have hhas:hasD d ((F:Int)+f+(i:Int)):=⟨by omega,by omega⟩
  by_cases h0:d.left=0
  ·have e:writeD d ((F:Int)+f+(i:Int)) (all[i]?.getD ⟨#[]⟩)=({d with down:=true},20):=by
    unfold writeD
    rw[hd,if_neg (by simp),if_neg (fun hn=>hn ⟨hhas,hp2⟩),if_pos h0]
   have e2:putAll ((F:Int)+f) all (i+1) d=({d with down:=true},20):=by
    unfold putAll
    rw[e,if_neg (show ¬ (20:Int)=0 by decide)]
   rw[e2]
   exact .inr ⟨rfl,by omega,⟨_,hs⟩,hw,rfl⟩
  ·obtain⟨d2,hd2⟩:=ex ({d with sectors:=d.sectors.set ((F:Int)+f+(i:Int)).toNat (all[i]?.getD ⟨#[]⟩),left:=if 0<d.left then d.left-1 else d.left}:Dk)
   have e:writeD d ((F:Int)+f+(i:Int)) (all[i]?.getD ⟨#[]⟩)=(d2,0):=by
    unfold writeD
    rw[hd,if_neg (by simp),if_neg (fun hn=>hn ⟨hhas,hp2⟩),if_neg h0,hd2,← hd]
   have e2:putAll ((F:Int)+f) all (i+1) d=putAll ((F:Int)+f) all i d2:=by
    conv=>lhs;unfold putAll
    rw[e,if_pos rfl]
   rw[e2]
   have hidx:((F:Int)+f+(i:Int)).toNat=F+(f+i):=by omega
   have hsec:d2.sectors=d.sectors.set (F+(f+i)) (all[i]?.getD ⟨#[]⟩):=by rw[hd2,← hidx]
   have hleft:d2.left=if 0<d.left then d.left-1 else d.left:=by rw[hd2]
   have hlen:d2.sectors.length=d.sectors.length:=by rw[hsec,List.length_set]
   have hlog:logS F N d2=mix s n ((f+i)*128):=by
    unfold logS
    rw[hsec,set_part (by omega)]
    refine mix_step ((hw.drop F).take N) hp2 (by rw[List.length_take,List.length_drop];omega) (by rw[hS.len,hS.nlen]) ?_ hp1
    have:(f+i+1)*128=(f+(i+1))*128:=by omega
    rw[this];exact hs
   have hw2:Whole d2.sectors:=by rw[hsec];exact hw.set _ hp2
   have h6:=ih (by omega) d2 hw2 (by omega) (by rw[hd2];exact hd) (by rw[hleft];split<;>omega) hlog
   have hm1:d.left= -1→d2.left= -1:=fun hx=>by rw[hleft,if_neg (by omega)];exact hx
   rcases h6 with⟨a1,a2,a3,a4,a5,a6,a7⟩|⟨a1,a2,a3,a4,a5⟩
   ·exact .inl ⟨a1,a2,a3,fun hx=>a4 (hm1 hx),a5,a6,by omega⟩
   ·exact .inr ⟨a1,fun hx=>a2 (hm1 hx),a3,a4,by omega⟩
theorem LInv.firstS {F N:Nat}{d:Dk}{g:Lo}{r1 r2:List Rec}(h:LInv F N d g r1 r2):firstS g=(((bytes r1).length/128:Nat):Int):=by
 unfold Lg.firstS
 have:=h.tail_size
 rw[this]
 omega
theorem LInv.sects {F N:Nat}{d:Dk}{g:Lo}{r1 r2:List Rec}(h:LInv F N d g r1 r2)(h2:r2≠[]):
 ∃ n,Sects F N ((bytes r1).length/128) (logS F N d) n [] (allS g)∧Lies n (r1++r2):=by
 obtain⟨X,hX⟩:=ex ((bytes r1).length)
 obtain⟨Y,hY⟩:=ex ((bytes (r1++r2)).length)
 have hXY:=bytes_le r1 r2
 have hpos:0<(bytes r2).length:=Nat.pos_of_ne_zero fun hz=>h2 (bytes_nil hz)
 have hfit:=h.fit
 have hsl:=logS_len (N:=N) h.whole h.room
 have htl:g.tail.data.toList=(bytes (r1++r2)).drop (X-X%128):=by rw[h.tail,hX]
 have hts:g.tail.size=Y-(X-X%128):=by
  have:g.tail.data.toList.length=g.tail.size:=by simp
  rw[← this,htl,List.length_drop,hY]
 have hcl:=cutB_length g.tail
 have hcf:flat (cutB g.tail)=(bytes (r1++r2)).drop (X-X%128)++List.replicate ((cutB g.tail).length*128-g.tail.size) 0:=by
  unfold cutB
  rw[flat_cutW _ _ (Nat.le_refl _),htl,List.length_drop,← htl,hts,← hY]
 obtain⟨z,hz,hzl,hzb⟩:∃ z,flat (allS g)=(bytes (r1++r2)).drop (X-X%128)++List.replicate z 0∧(X/128+(allS g).length≤N)∧(128≤z∨Y+z=N*128):=by
  unfold allS
  rw[h.firstS,h.hn,← hX]
  by_cases hc:(((X/128:Nat):Int)+((cutB g.tail).length:Int))<(N:Int)
  ·rw[if_pos hc]
   refine⟨(cutB g.tail).length*128-g.tail.size+128,?_,?_,.inl (by omega)⟩
   ·rw[flat_append,hcf,flat_one,List.append_assoc,List.replicate_append_replicate]
   ·rw[List.length_append];simp;omega
  ·rw[if_neg hc]
   refine⟨(cutB g.tail).length*128-g.tail.size,hcf,?_,.inr ?_⟩
   ·omega
   ·omega
 have hwa:Whole (allS g):=by
  unfold allS
  split
  ·intro b hb
   rcases List.mem_append.1 hb with h3|h3
   ·exact cutB_size _ b h3
   ·rw[List.mem_singleton.1 h3];exact zero128_size
  ·exact cutB_size _
 have hal:0<(allS g).length:=by
  have:(cutB g.tail).length≤(allS g).length:=by unfold allS;split<;>simp
  omega
 have hfl:=flat_len hwa
 rw[hz,List.length_append,List.length_drop,List.length_replicate,← hY]at hfl
 obtain⟨n,hn⟩:=ex ((logS F N d).take (X/128*128)++(flat (allS g)++(logS F N d).drop ((X/128+(allS g).length)*128)))
 have hS:Sects F N (X/128) (logS F N d) n [] (allS g):=⟨hwa,hzl,hal,hn,hsl⟩
 have hall:n=bytes (r1++r2)++(List.replicate z 0++(logS F N d).drop ((X/128+(allS g).length)*128)):=by
  have e1:(logS F N d).take (X/128*128)=(bytes (r1++r2)).take (X/128*128):=by
   have h3:=congrArg (List.take (X/128*128)) h.pre
   rw[List.take_take,Nat.min_eq_left (by omega)]at h3
   rw[h3,bytes_append,List.take_append_of_le_length (by omega)]
  rw[hn,hz,e1,show X-X%128=X/128*128 by omega,List.append_assoc,← List.append_assoc,List.take_append_drop]
 refine⟨n,by rw[← hX];exact hS,h.row,?_,?_,?_⟩
 ·rw[hall,List.take_left' rfl]
 ·rw[hS.nlen];exact hfit
 ·intro i h3 h4 h5
  rw[hS.nlen]at h5
  rw[hall,List.getElem?_append_right h3,List.getElem?_append_left (by rw[List.length_replicate];omega),List.getElem?_replicate,if_pos (by omega)]
theorem LInv.force {F N:Nat}{d:Dk}{g:Lo}{r1 r2:List Rec}(h:LInv F N d g r1 r2)(hd:d.down=false)(hl: -1≤d.left):
 ((forceD d g).2.2=0∧LInv F N (forceD d g).1 (forceD d g).2.1 (r1++r2) []∧(forceD d g).1.down=false∧-1≤(forceD d g).1.left∧(d.left= -1→(forceD d g).1.left= -1)∧(forceD d g).1.sectors.length=d.sectors.length∧(forceD d g).2.1.safe=(forceD d g).2.1.end_∧(Lies (logS F N d) r1∨r2≠[]→Lies (logS F N (forceD d g).1) (r1++r2)))∨
 ((forceD d g).2.2=20∧r2≠[]∧(forceD d g).2.1=g∧d.left≠-1∧Whole (forceD d g).1.sectors∧(forceD d g).1.sectors.length=d.sectors.length∧∃ n q,Lies n (r1++r2)∧n.length=N*128∧logS F N (forceD d g).1=mix (logS F N d) n q):=by
 by_cases h2:r2=[]
 ·subst h2
  have hse:g.safe=g.end_:=by rw[h.safe,h.end_,List.append_nil]
  have e:forceD d g=(d,g,0):=by unfold forceD;rw[if_pos hse]
  rw[e]
  refine .inl ⟨rfl,?_,hd,hl,fun hx=>hx,rfl,hse,fun hx=>?_⟩
  ·have h3:=h
   rw[← List.append_nil r1]at h3
   simpa using h3
  ·rcases hx with hx|hx
   ·simpa using hx
   ·exact absurd rfl hx
 ·have hse:¬ g.safe=g.end_:=by
   have hpos:0<(bytes r2).length:=Nat.pos_of_ne_zero fun hz=>h2 (bytes_nil hz)
   have hXY:=bytes_le r1 r2
   rw[h.safe,h.end_];omega
  obtain⟨n,hS,hL⟩:=h.sects h2
  have hbase:g.from_+Lg.firstS g=(F:Int)+(((bytes r1).length/128:Nat):Int):=by rw[h.hf,h.firstS]
  have hp:=putAll_mix hS (allS g).length (Nat.le_refl _) d h.whole h.room hd hl hS.start.symm
  rw[← hbase]at hp
  rcases hp with⟨a1,a2,a3,a4,a5,a6,a7⟩|⟨a1,a2,a3,a4,a5⟩
  ·have e:forceD d g=((putAll (g.from_+Lg.firstS g) (allS g) (allS g).length d).1,forcedL g,0):=by
    unfold forceD
    rw[if_neg hse]
    simp only
    rw[if_pos a1]
   rw[e]
   refine .inl ⟨rfl,?_,a2,a3,a4,a7,rfl,fun _=>by show Lies (logS F N _) _;rw[a5,hS.all_];exact hL⟩
   have hlog:logS F N (putAll (g.from_+Lg.firstS g) (allS g) (allS g).length d).1=n:=by rw[a5,hS.all_]
   have hts:=h.tail_size
   have hend:=h.end_
   refine⟨a6,by rw[a7];exact h.room,h.hf,h.hn,by rw[List.append_nil];exact h.row,?_,?_,?_,?_,by rw[List.append_nil];exact h.fit⟩
   ·show(logS F N (putAll (g.from_+Lg.firstS g) (allS g) (allS g).length d).1).take _=_
    rw[hlog];exact hL.pre
   ·show g.end_=_
    exact hend
   ·show g.end_=_
    rw[List.append_nil];exact hend
   ·show g.tail.extract (g.tail.size-(g.end_%128).toNat) g.tail.size=_
    have hXY:=bytes_le r1 r2
    have hts2:g.tail.size=(bytes (r1++r2)).length-(bytes r1).length/128*128:=by omega
    rw[List.append_nil,hend]
    apply ByteArray.ext
    rw[ByteArray.data_extract,h.tail]
    apply Array.toList_inj.1
    rw[Array.toList_extract]
    simp only[List.extract_eq_drop_take']
    rw[← h.tail,hts2]
    have e1:(((((bytes (r1++r2)).length:Nat):Int)%128).toNat)=(bytes (r1++r2)).length%128:=by omega
    rw[e1]
    rw[List.drop_take,List.drop_drop,List.take_of_length_le (by rw[List.length_drop];omega)]
    congr 1;omega
  ·have e:forceD d g=((putAll (g.from_+Lg.firstS g) (allS g) (allS g).length d).1,g,20):=by
    unfold forceD
    rw[if_neg hse]
    simp only
    rw[if_neg (show ¬ _ by rw[a1];decide),a1]
   rw[e]
   obtain⟨q,hq⟩:=a3
   exact .inr ⟨rfl,h2,rfl,a2,a4,a5,n,q,hL,hS.nlen,hq⟩
theorem secs_ok {d:Dk}(hd:d.down=false):∀ (k a:Nat),a+k≤d.sectors.length→secsD d (a:Int) k= .ok (flat ((d.sectors.drop a).take k)):=by
 intro k
 induction k with
 |zero=>intro a _;unfold secsD;rw[List.take_zero];rfl
 |succ k ih=>
  intro a ha
  have h1:readD d (a:Int)=(d.sectors[a]'(by omega),0):=by
   unfold readD
   rw[hd,if_neg (by simp),if_pos (show hasD d (a:Int)from⟨by omega,by omega⟩)]
   unfold secAt
   rw[Int.toNat_natCast,List.getElem?_eq_getElem (by omega),Option.getD_some]
  have h2:=ih (a+1) (by omega)
  unfold secsD
  rw[h1,if_pos rfl,show((a:Int)+1)=((a+1:Nat):Int) by omega,h2,List.drop_eq_getElem_cons (l:=d.sectors) (i:=a) (by omega),List.take_succ_cons,flat_cons]
theorem part_part (L:List ByteArray)(F N a k:Nat)(h:a+k≤N):(L.drop (F+a)).take k=(((L.drop F).take N).drop a).take k:=by
 refine List.ext_getElem? fun i=>?_
 simp only[List.getElem?_take,List.getElem?_drop]
 by_cases h1:i<k
 ·rw[if_pos h1,if_pos h1,if_pos (by omega)]
  congr 1;omega
 ·rw[if_neg h1,if_neg h1]
theorem openL_is (s:List UInt8):∀ (f a:Nat),a≤s.length→Row a (openL s f a).1∧(openL s f a).2=a+(bytes (openL s f a).1).length∧(openL s f a).2≤s.length∧s.take (openL s f a).2=s.take a++bytes (openL s f a).1:=by
 intro f
 induction f with
 |zero=>intro a ha;unfold openL;exact⟨trivial,rfl,ha,by simp[bytes]⟩
 |succ f ih=>
  intro a ha
  have hnone:Row a []∧a=a+(bytes []).length∧a≤s.length∧s.take a=s.take a++bytes []:=⟨trivial,rfl,ha,by simp[bytes]⟩
  by_cases hI:Is s a
  ·have hg:=getO_yes hI
   by_cases hn:(readM true (bodyAt s a)).lsn=(a:Int)+1
   ·have e:openL s (f+1) a=(readM true (bodyAt s a)::(openL s f (a+8+Oct.getN s a 4)).1,(openL s f (a+8+Oct.getN s a 4)).2):=by
     conv=>lhs;unfold openL
     rw[hg];simp only;rw[if_pos hn]
    have hlen:(putR (readM true (bodyAt s a))).length=8+Oct.getN s a 4:=by
     rw[putR_len,hI.2.2.2]
     unfold bodyAt
     rw[List.length_take,List.length_drop]
     have:=hI.1
     omega
    obtain⟨h1,h2,h3,h4⟩:=ih (a+8+Oct.getN s a 4) hI.1
    rw[e]
    have hb:=is_bytes hI
    refine⟨⟨hI.2.2.1,hn,by rw[hlen,← Nat.add_assoc];exact h1⟩,?_,h3,?_⟩
    ·rw[bytes_cons,List.length_append,hlen,h2];omega
    ·rw[bytes_cons,h4,← List.append_assoc]
     congr 1
     have h5:=congrArg (List.take (a+8+Oct.getN s a 4)) hb
     rw[← List.append_assoc,List.take_left' (by rw[List.length_append,List.length_take,hlen];omega)]at h5
     exact h5
   ·have e:openL s (f+1) a=([],a):=by
     conv=>lhs;unfold openL
     rw[hg];simp only;rw[if_neg hn]
    rw[e];exact hnone
  ·have e:openL s (f+1) a=([],a):=by
    conv=>lhs;unfold openL
    rw[getO_no hI]
   rw[e];exact hnone
theorem LInv.opened {F N:Nat}{d:Dk}(hd:d.down=false)(hw:Whole d.sectors)(hr:F+N≤d.sectors.length):
 (openD d F N).2=((openL (logS F N d) (N*128+1) 0).1,0)∧LInv F N d (openD d F N).1 (openL (logS F N d) (N*128+1) 0).1 []:=by
 have hl:=logS_len (N:=N) hw hr
 have hs:secsD d (F:Int) (N:Int).toNat= .ok (logS F N d):=by rw[Int.toNat_natCast];exact secs_ok hd N F hr
 obtain⟨h1,h2,h3,h4⟩:=openL_is (logS F N d) (N*128+1) 0 (Nat.zero_le _)
 have e:openD d F N=(⟨F,N,((openL (logS F N d) (N*128+1) 0).2:Int),((openL (logS F N d) (N*128+1) 0).2:Int),⟨(((logS F N d).take (openL (logS F N d) (N*128+1) 0).2).drop ((openL (logS F N d) (N*128+1) 0).2-(openL (logS F N d) (N*128+1) 0).2%128)).toArray⟩⟩,(openL (logS F N d) (N*128+1) 0).1,0):=by
  unfold openD
  rw[hs]
  simp only
  rw[hl]
 rw[e]
 rw[Nat.zero_add]at h2
 rw[List.take_zero,List.nil_append]at h4
 refine⟨rfl,hw,hr,rfl,rfl,by rw[List.append_nil];exact h1,by rw[← h2];exact h4,by rw[h2],by rw[List.append_nil,h2],?_,by rw[List.append_nil];omega⟩
 rw[List.append_nil,← h2,h4]
theorem LInv.same {F N:Nat}{d d':Dk}{g g':Lo}{r1 r2:List Rec}(h:LInv F N d g r1 r2)(h':LInv F N d' g' r1 r2):g=g':=by
 obtain⟨a1,a2,a3,a4,a5⟩:=g
 obtain⟨b1,b2,b3,b4,b5⟩:=g'
 have e1:=h.hf.trans h'.hf.symm
 have e2:=h.hn.trans h'.hn.symm
 have e3:=h.end_.trans h'.end_.symm
 have e4:=h.safe.trans h'.safe.symm
 have e5:=h.tail.trans h'.tail.symm
 simp only at e1 e2 e3 e4 e5
 subst e1 e2 e3 e4 e5
 rfl
theorem LInv.disk {F N:Nat}{d d':Dk}{g:Lo}{r1 r2:List Rec}(h:LInv F N d g r1 r2)(he:d'.sectors=d.sectors):LInv F N d' g r1 r2:=
 ⟨by rw[he];exact h.whole,by rw[he];exact h.room,h.hf,h.hn,h.row,by unfold logS;rw[he];exact h.pre,h.safe,h.end_,h.tail,h.fit⟩
theorem LInv.read {F N:Nat}{d:Dk}{g:Lo}{r1 r2:List Rec}(h:LInv F N d g r1 r2)(hd:d.down=false)(x y:List Rec)(r:Rec)(hxy:r1++r2=x++r::y):
 r.lsn=((bytes x).length:Int)+1∧readL d g (((bytes x).length:Int)+1)= .ok r:=by
 have hrow:=h.row
 rw[hxy,row_append]at hrow
 obtain⟨_,hR,hlsn,_⟩:=hrow
 rw[Nat.zero_add]at hlsn
 refine⟨hlsn,?_⟩
 obtain⟨X,hX⟩:=ex ((bytes r1).length)
 obtain⟨A,hA⟩:=ex ((bytes x).length)
 obtain⟨all,hall⟩:=ex (bytes (r1++r2))
 have hb:all=bytes x++(putR r++bytes y):=by rw[hall,hxy,bytes_append,bytes_cons]
 have hlen:all.length=A+((putR r).length+(bytes y).length):=by rw[hb,List.length_append,List.length_append,hA]
 have hpl:=putR_len r
 have hle:=bytes_le r1 r2
 have hend:=h.end_
 have hts:=h.tail_size
 have hfit:=h.fit
 have hbase:(g.end_-(g.tail.size:Int))/128=((X/128:Nat):Int):=by rw[hts,hX];omega
 rw[← hall]at hend hle hfit
 rw[← hX]at hle
 unfold readL
 rw[if_neg (by omega)]
 simp only
 rw[hbase]
 obtain⟨a,ha⟩:=ex (min (A/128) (X/128):Nat)
 have hmin:min ((((bytes x).length:Int)+1-1)/128) ((X/128:Nat):Int)=(a:Int):=by rw[← hA];omega
 rw[hmin]
 have h1:g.from_+(a:Int)=((F+a:Nat):Int):=by rw[h.hf];omega
 have h2:(((X/128:Nat):Int)-(a:Int)).toNat=X/128-a:=by omega
 have hX128:X/128*128≤X:=by omega
 have hroom:=h.room
 rw[h1,h2,secs_ok hd _ _ (by omega),part_part _ F N a _ (by omega)]
 have hpart:flat ((((d.sectors.drop F).take N).drop a).take (X/128-a))=(all.take (X/128*128)).drop (a*128):=by
  rw[flat_take (((h.whole.drop F).take N).drop a),flat_drop ((h.whole.drop F).take N)]
  show((logS F N d).drop (a*128)).take ((X/128-a)*128)=_
  have e1:all.take (X/128*128)=(logS F N d).take (X/128*128):=by
   have h3:=congrArg (List.take (X/128*128)) h.pre
   rw[List.take_take,Nat.min_eq_left (by omega)]at h3
   rw[h3,hall,bytes_append,List.take_append_of_le_length (by omega)]
  rw[e1,List.drop_take]
  congr 1
  omega
 have htl:g.tail.data.toList=all.drop (X/128*128):=by
  rw[h.tail,← hall,← hX,show X-X%128=X/128*128 by omega]
 rw[hpart,htl]
 have hjoin:(all.take (X/128*128)).drop (a*128)++all.drop (X/128*128)=all.drop (a*128):=by
  conv=>rhs;rw[← List.take_append_drop (X/128*128) all]
  rw[List.drop_append_of_le_length (by rw[List.length_take];omega)]
 simp only
 rw[hjoin,getO_drop _ _ _ (by omega)]
 have hpos:a*128+(((bytes x).length:Int)+1-1-(a:Int)*128).toNat=(bytes x).length:=by omega
 rw[hpos,hb,getO_put _ _ hR]
 simp only[Option.map_some]
 rw[if_pos hlsn]
structure Al (l:Lo):Prop where
 s0:0≤l.safe
 se:l.safe≤l.end_
 tl:l.end_-(l.tail.size:Int)=l.safe-l.safe%128
theorem LInv.al {F N:Nat}{d:Dk}{g:Lo}{r1 r2:List Rec}(h:LInv F N d g r1 r2):Al g:=by
 have hs:=h.safe
 have he:=h.end_
 have hl:=bytes_le r1 r2
 have ht:g.tail.size=(bytes (r1++r2)).length-((bytes r1).length-(bytes r1).length%128):=by
  rw[h.tail]
  show((bytes (r1++r2)).drop _).toArray.size=_
  rw[List.size_toArray,List.length_drop]
 exact⟨by omega,by omega,by rw[ht,he,hs];omega⟩
theorem Al.first {l:Lo}(h:Al l):firstS l=l.safe/128:=by
 have h1:=h.s0
 have h2:=h.tl
 unfold firstS
 rw[h2]
 omega
theorem Al.more {l:Lo}(h:Al l)(hne:¬ l.end_≤l.safe):0<l.tail.size:=by
 have h1:=h.s0
 have h2:=h.se
 have h3:=h.tl
 omega
theorem cutW_get (n:Nat):∀ l:List UInt8,l.length≤n→∀ k,k*128<l.length→(cutW l)[k]? =some (pad128 ((l.drop (k*128)).take 128)):=by
 induction n with
 |zero=>intro l hl k hk;omega
 |succ n ih=>
  intro l hl k hk
  have h:l≠[]:=fun e=>by rw[e]at hk;simp at hk
  rw[cutW_cons h]
  cases k with
  |zero=>simp
  |succ k=>
   rw[List.getElem?_cons_succ,ih _ (by rw[List.length_drop];omega) k (by rw[List.length_drop];omega),List.drop_drop]
   congr 4
   omega
theorem cutB_get (s:ByteArray)(k:Nat)(hk:k*128<s.size):(cutB s)[k]? =some (pad128 ((s.data.toList.drop (k*128)).take 128)):=cutW_get _ _ (Nat.le_refl _) k (by simpa using hk)
theorem pad_none:pad128 []=zero128:=by unfold pad128 zero128;simp
end Lg
namespace Go.Proofs.YtilakddepaplhaaGreat
open Go.RowKit
theorem ris_any (d:Lg.Dk)(A:Option Addr)(c:Nat)(a:Int)(w:World):
 Calls Tryz.prog 78 #[diskV d A c,a] w fun e w'=>e= .returned (.bool (decide (Lg.hasD d a)))∧Below w.heap.size w w':=by
 obtain⟨L,left,down⟩:=d
 by_cases h0:0≤a
 ·by_cases h1:a<(L.length:Int)
  ·rw[decide_eq_true (show Lg.hasD ⟨L,left,down⟩ a from And.intro h0 h1)]
   go_enter Tryz.func78,Tryz.ntmps78
   go_wp2_with fail
   go_ret
   exact⟨by simp,allocB _ _⟩
  ·rw[decide_eq_false (show ¬ Lg.hasD ⟨L,left,down⟩ a from fun h=>h1 h.2)]
   go_enter Tryz.func78,Tryz.ntmps78
   go_wp2_with fail
   go_ret
   exact⟨by simp,allocB _ _⟩
 ·rw[decide_eq_false (show ¬ Lg.hasD ⟨L,left,down⟩ a from fun h=>h0 h.1)]
  go_enter Tryz.func78,Tryz.ntmps78
  go_wp2_with fail
  go_ret
  exact⟨by simp,allocB _ _⟩
theorem rdread_any (d:Lg.Dk)(A:Option Addr)(c:Nat)(a:Int)(w:World)(h:DiskR w d A c):
 Calls Tryz.prog 39 #[diskV d A c,a] w fun e w'=>e= .returned (.tuple #[.string (Lg.readD d a).1,.int .i64 (Lg.readD d a).2])∧Below w.heap.size w w':=by
 have HH:=Hq (fun W=>ris_any d A c a W)
 have HR:=Hq h.secs
 clear h
 unfold Lg.readD
 cases hd:d.down with
 |true=>
  obtain⟨L,left,down⟩:=d
  simp only at hd
  subst hd
  rw[if_pos rfl]
  dsimp only[diskV]
  go_enter Tryz.func39,Tryz.ntmps39
  go_wp2_with fail
  go_ret2
  exact⟨rfl,allocB _ _⟩
 |false=>
  rw[if_neg (by simp)]
  by_cases hh:Lg.hasD d a
  ·rw[if_pos hh]
   rw[decide_eq_true hh]at HH
   obtain⟨L,left,down⟩:=d
   simp only at hd
   subst hd
   unfold Lg.hasD at hh
   unfold Lg.secAt
   dsimp only[diskV]at hh HH HR ⊢
   obtain⟨h0,h1⟩:=hh
   obtain⟨k,rfl⟩:=Int.eq_ofNat_of_zero_le h0
   have hk:k<L.length:=by omega
   obtain⟨b,off,rfl,hc,hbl,hcell⟩:=read_at strC_len HR.out hk
   have q0:=hcell 0 _ rfl
   simp only[Nat.mul_one,Nat.add_zero]at q0
   rw[Int.toNat_natCast,List.getElem?_eq_getElem hk,Option.getD_some]
   generalize L[k]=x at q0 ⊢
   have Q0:=Hq q0
   clear q0 hcell h0
   go_enter Tryz.func39,Tryz.ntmps39
   go_upto_region 5 with(go_at_call 78;(with_reducible refine(HH.out _).mono ?_);rintro e w1 ⟨rfl,hb1⟩;have hbx:=blkCell (blkNew hb1))
   have q1:w1.cell? ⟨b,off+k,none⟩=some (.string x):=(joinB (allocB w _) hb1).cell (p:=⟨b,off+k,none⟩) hbl|>.trans Q0.out
   have HB1:=Hq (joinB (allocB w _) hb1)
   clear hb1
   go_wp2_with fail
   go_ret2
   exact⟨rfl,HB1.out⟩
  ·rw[if_neg hh]
   rw[decide_eq_false hh]at HH
   clear hh
   obtain⟨L,left,down⟩:=d
   simp only at hd
   subst hd
   dsimp only[diskV]at HH ⊢
   go_enter Tryz.func39,Tryz.ntmps39
   go_wp2_with (go_at_call 78;(with_reducible refine(HH.out _).mono ?_);rintro e w1 ⟨rfl,hb1⟩)
   go_ret2
   exact⟨rfl,joinB (allocB _ _) hb1⟩
theorem rfirst_any (f n e s:Int)(t:ByteArray)(hs0:0≤s)(hs:s≤1000000000)(w:World):
 Calls Tryz.prog 71 #[.agg #[f,n,e,s,t]] w fun x w'=>x= .returned (.int .i64 (s/128))∧Below w.heap.size w w':=by
 have hq:s.tdiv 128=s/128:=Int.tdiv_eq_ediv_of_nonneg hs0
 have hwq:IntKind.i64.wrap (s/128)=s/128:=IntWalk.i64_in _ (by omega)
 have hwq2:IntKind.i64.wrap (s.tdiv 128)=s/128:=by rw[hq];exact hwq
 go_enter Tryz.func71,Tryz.ntmps71
 go_wp2_with fail
 go_ret
 exact⟨by simp,allocB _ _⟩
theorem rwith_any (L:List ByteArray)(left:Int)(down:Bool)(A:Option Addr)(c:Nat)(k:Nat)(b:ByteArray)(hk:k<L.length)(hlen:L.length≤1000000)(w:World)(h:Reads w A c L.length (L.flatMap strC)):
 Calls Tryz.prog 112 #[.agg #[.slice A L.length c,left,down],.int .i64 (k:Int),b] w fun e w'=>∃ A2 c2,e= .returned (.agg #[.slice A2 L.length c2,left,down])∧Reads w' A2 c2 L.length ((L.map Value.string).set k (.string b))∧NewT w.heap.size w' 9 A2∧Below w.heap.size w w':=by
 obtain⟨i0,hi,hz0,hz1,hz2⟩:=info_parts info_string
 have hkI:(k:Int)<(L.length:Int):=by omega
 have HR:=Hq h
 clear h
 go_enter Tryz.func112,Tryz.ntmps112
 go_upto_region 1 with fail
 have H0:=nW2 w #[.slice A L.length c,left,down] 29 #["s",(),false] 29
 have hc0:=blkCell H0.out.get0
 obtain⟨W0,hW0⟩:=exW H0
 have HSZ:=Hq (show W0.heap.size=w.heap.size+2 from by rw[hW0];simp)
 rw[← hW0]at H0 hc0 ⊢
 clear hW0
 have H1:=Hq (H0.out.step (allocB W0 (.cells #[] 9)))
 have HRD:=Hq (HR.out.below H1.out.below)
 have hc1:=blkCell H1.out.get0
 go_upto_region 2 with(at_builtin;refine listWants Kr fun K hK=>wp_appR (W0.alloc (.cells #[] 9)) (.tmp 8) (.tmp 10) 27 9 i0 (.string ⟨#[]⟩) 1 16 Tryz.underlying27 hi hz0 hz1 hz2 rfl (by omega) rfl W0.heap.size _ 0 [] rfl (ownEmpty W0 9 1) A L.length c (L.flatMap strC) rfl HRD.out (by rw[flat_len strC_len]) (fun u hu=>by rw[strC_map]at hu;obtain⟨x,_,rfl⟩:=List.mem_map.1 hu;rfl) (by omega) (by omega) (by simp) ?_;intro v2 w2 ho hg hb;refine hK _ _ ?_)
 rw[List.nil_append,Nat.zero_add,strC_map]at ho
 have hs0:=HSZ.out
 have H2:=Hq (H1.out.under (M:=W0.heap.size) (by rw[hs0];exact Nat.le_refl _) hb)
 obtain⟨A2,c2,rfl⟩:=ownLen ho
 obtain⟨g,cap,hv,hgB,hgl,hcap,hcl,hfz,hset⟩:=ownAt ho hk
 injection hv with hv1 hv2 hv3
 subst hv1 hv3
 rw[List.getElem?_eq_getElem (by simpa using hk)]at hcl
 simp only[List.getElem_map]at hcl
 have HSET:=Hq hset
 clear ho hset hg hb H1 HRD H0 hc0
 go_upto_region 3 with fail
 have hgw:w.heap.size+2≤g:=by omega
 have H4:=Hq (H2.out.under (M:=g) (by show w.heap.size+2≤g;exact hgw) ((Below.refl g w2).setCell (p:=⟨g,k,none⟩) (Nat.le_refl g) (.string b)))
 have HO4:=Hq (HSET.out (.string b))
 obtain⟨W4,hW4⟩:=ex (w2.setCell ⟨g,k,none⟩ (.string b))
 rw[← hW4]at H4 HO4 ⊢
 have hc4:=blkCell H4.out.get0
 have hz4:=blkFrozen H4.out.get0
 clear hW4 hcl hfz HSET H2
 go_upto_region 4 with fail
 have H5:=Hq (H4.out.set 0 0 (.slice (some ⟨g,0,none⟩) L.length c2) _ rfl)
 simp only[Nat.add_zero]at H5
 have HX5:=Hq (show(W4.setCell ⟨w.heap.size,0,none⟩ (.slice (some ⟨g,0,none⟩) L.length c2)).heap[w.heap.size]? =some (.cells #[.slice (some ⟨g,0,none⟩) L.length c2,left,down] 29 (0,0))from by have h:=H5.out.get0;simpa using h)
 have HO5:=Hq (ownSet HO4.out ⟨w.heap.size,0,none⟩ (.slice (some ⟨g,0,none⟩) L.length c2) (by show w.heap.size<_;omega))
 obtain⟨W5,hW5⟩:=ex (W4.setCell ⟨w.heap.size,0,none⟩ (.slice (some ⟨g,0,none⟩) L.length c2))
 rw[← hW5]at H5 HX5 HO5 ⊢
 clear hW5 hc4 hz4 HO4 H4
 go_wp2_with (first
  |(with_reducible refine lL HX5.out Tryz.underlying29 ?_)|(with_reducible refine lS #[.slice (some ⟨g,0,none⟩) L.length c2,left,down] H5.out.get1 ?_))
 refine bodyPost_ret (v:=.agg #[.slice (some ⟨g,0,none⟩) L.length c2,left,down]) (results_cell rfl _ _ rfl (load_whole (setRow_heap _ _ _ _ _ _ H5.out.get1) Tryz.underlying29 Kr Kr)) rfl ?_
 exact⟨_,_,rfl,(own_reads HO5.out).offRow _ _ (fun _ ad e=>(by injection e with e;rw[← e];show g≠w.heap.size+1;omega)),((NewT.own HO5.out).row _ _).mono (by omega),(H5.out.row 1 _ _ rfl).below⟩
theorem rwrite_down (L:List ByteArray)(left:Int)(A:Option Addr)(c:Nat)(a:Int)(b:ByteArray)(x:Lg.Dk×Int)(hx:x=(⟨L,left,true⟩,20))(w:World)(h:DiskR w ⟨L,left,true⟩ A c):
 Calls Tryz.prog 72 #[.agg #[.slice A L.length c,left,true],a,b] w (WriteOut x A w):=by
 have HO:=Hq (fun w' hb=>write_keep (dn:=true) hx h (w':=w') hb)
 dsimp only at HO
 clear hx h
 go_enter Tryz.func72,Tryz.ntmps72
 go_upto_region 1 with fail
 have H0:=nW2 w #[.slice A L.length c,left,true] 29 #["s",(),false] 29
 have hc0:=blkCell H0.out.get0
 obtain⟨W0,hW0⟩:=exW H0
 rw[← hW0]at H0 hc0 ⊢
 clear hW0
 have HX0:=Hq (show W0.heap[w.heap.size]? =some (.cells #[.slice A L.length c,left,true] 29 (0,0))from(by have h:=H0.out.get0;simpa using h))
 go_wp2_with (first|(with_reducible refine lL HX0.out Tryz.underlying29 ?_)|(with_reducible refine lS #[.slice A L.length c,left,true] H0.out.get1 ?_))
 refine bodyPost_ret (v:=.tuple #[.agg #[.slice A L.length c,left,true],.int .i64 20]) (results_cell2 rfl _ _ rfl (load_whole (setRow_heap _ _ _ _ _ _ H0.out.get1) Tryz.underlying29 Kr Kr) rfl) rfl ?_
 exact HO.out _ ((H0.out.row 1 _ _ rfl).below)
theorem rwrite_arg (L:List ByteArray)(left:Int)(A:Option Addr)(c:Nat)(a:Int)(b:ByteArray)(hno:¬ (Lg.hasD ⟨L,left,false⟩ a∧b.size=128))(x:Lg.Dk×Int)(hx:x=(⟨L,left,false⟩,1))(w:World)(h:DiskR w ⟨L,left,false⟩ A c):
 Calls Tryz.prog 72 #[.agg #[.slice A L.length c,left,false],a,b] w (WriteOut x A w):=by
 have HO:=Hq (fun w' hb=>write_keep (dn:=false) hx h (w':=w') hb)
 dsimp only at HO
 have HH:=Hq (fun W=>ris_any ⟨L,left,false⟩ A c a W)
 clear hx h
 by_cases hh:Lg.hasD ⟨L,left,false⟩ a
 ·rw[decide_eq_true hh]at HH
  have hs:¬ b.size=128:=fun e=>hno ⟨hh,e⟩
  have hs2:((b.size:Int)==128)=false:=by simp;omega
  have hs3:((b.size:Int) != 128)=true:=by simp;omega
  have hs4:(b.size==128)=false:=by simp;omega
  have hs5:(b.size != 128)=true:=by simp;omega
  clear hno hh
  dsimp only[diskV]at HH
  go_enter Tryz.func72,Tryz.ntmps72
  go_upto_region 1 with fail
  have H0:=nW2 w #[.slice A L.length c,left,false] 29 #["s",(),false] 29
  have hc0:=blkCell H0.out.get0
  obtain⟨W0,hW0⟩:=exW H0
  rw[← hW0]at H0 hc0 ⊢
  clear hW0
  have HX0:=Hq (show W0.heap[w.heap.size]? =some (.cells #[.slice A L.length c,left,false] 29 (0,0))from(by have h:=H0.out.get0;simpa using h))
  go_upto_region 4 with(first|(with_reducible refine lL HX0.out Tryz.underlying29 ?_)|(go_at_call 78;(with_reducible refine(HH.out _).mono ?_);rintro e w1 ⟨rfl,hb1⟩;have H1:=Hq (H0.out.step hb1);clear hb1;have hc1:=blkCell H1.out.get0))
  have HX1:=Hq (show w1.heap[w.heap.size]? =some (.cells #[.slice A L.length c,left,false] 29 (0,0))from(by have h:=H1.out.get0;simpa using h))
  clear hs hs2 hs3 hs4 hs5
  go_wp2_with (first|(with_reducible refine lL HX1.out Tryz.underlying29 ?_)|(with_reducible refine lS #[.slice A L.length c,left,false] H1.out.get1 ?_))
  refine bodyPost_ret (v:=.tuple #[.agg #[.slice A L.length c,left,false],.int .i64 1]) (results_cell2 rfl _ _ rfl (load_whole (setRow_heap _ _ _ _ _ _ H1.out.get1) Tryz.underlying29 Kr Kr) rfl) rfl ?_
  exact HO.out _ ((H1.out.row 1 _ _ rfl).below)
 ·rw[decide_eq_false hh]at HH
  clear hno hh
  dsimp only[diskV]at HH
  go_enter Tryz.func72,Tryz.ntmps72
  go_upto_region 1 with fail
  have H0:=nW2 w #[.slice A L.length c,left,false] 29 #["s",(),false] 29
  have hc0:=blkCell H0.out.get0
  obtain⟨W0,hW0⟩:=exW H0
  rw[← hW0]at H0 hc0 ⊢
  clear hW0
  have HX0:=Hq (show W0.heap[w.heap.size]? =some (.cells #[.slice A L.length c,left,false] 29 (0,0))from(by have h:=H0.out.get0;simpa using h))
  go_upto_region 4 with(first|(with_reducible refine lL HX0.out Tryz.underlying29 ?_)|(go_at_call 78;(with_reducible refine(HH.out _).mono ?_);rintro e w1 ⟨rfl,hb1⟩;have H1:=Hq (H0.out.step hb1);clear hb1;have hc1:=blkCell H1.out.get0))
  have HX1:=Hq (show w1.heap[w.heap.size]? =some (.cells #[.slice A L.length c,left,false] 29 (0,0))from(by have h:=H1.out.get0;simpa using h))
  go_wp2_with (first|(with_reducible refine lL HX1.out Tryz.underlying29 ?_)|(with_reducible refine lS #[.slice A L.length c,left,false] H1.out.get1 ?_))
  refine bodyPost_ret (v:=.tuple #[.agg #[.slice A L.length c,left,false],.int .i64 1]) (results_cell2 rfl _ _ rfl (load_whole (setRow_heap _ _ _ _ _ _ H1.out.get1) Tryz.underlying29 Kr Kr) rfl) rfl ?_
  exact HO.out _ ((H1.out.row 1 _ _ rfl).below)
theorem rwrite_out (L:List ByteArray)(A:Option Addr)(c:Nat)(a:Int)(b:ByteArray)(hh:Lg.hasD ⟨L,0,false⟩ a)(hs:b.size=128)(x:Lg.Dk×Int)(hx:x=(⟨L,0,true⟩,20))(w:World)(h:DiskR w ⟨L,0,false⟩ A c):
 Calls Tryz.prog 72 #[.agg #[.slice A L.length c,(),false],a,b] w (WriteOut x A w):=by
 have HO:=Hq (fun w' hb=>write_keep (dn:=true) hx h (w':=w') hb)
 dsimp only at HO
 have HH:=Hq (fun W=>ris_any ⟨L,0,false⟩ A c a W)
 rw[decide_eq_true hh]at HH
 have hs1:((b.size:Int)==128)=true:=by simp;omega
 have hs2:((b.size:Int) != 128)=false:=by simp;omega
 have hs3:(b.size==128)=true:=by simp;omega
 have hs4:(b.size != 128)=false:=by simp;omega
 clear hx h hs hh
 dsimp only[diskV]at HH
 go_enter Tryz.func72,Tryz.ntmps72
 go_upto_region 1 with fail
 have H0:=nW2 w #[.slice A L.length c,(),false] 29 #["s",(),false] 29
 have hc0:=blkCell H0.out.get0
 obtain⟨W0,hW0⟩:=exW H0
 rw[← hW0]at H0 hc0 ⊢
 clear hW0
 have HX0:=Hq (show W0.heap[w.heap.size]? =some (.cells #[.slice A L.length c,(),false] 29 (0,0))from(by have h:=H0.out.get0;simpa using h))
 go_upto_region 5 with(first|(with_reducible refine lL HX0.out Tryz.underlying29 ?_)|(go_at_call 78;(with_reducible refine(HH.out _).mono ?_);rintro e w1 ⟨rfl,hb1⟩;have H1:=Hq (H0.out.step hb1);clear hb1;have hc1:=blkCell H1.out.get0))
 clear hs1 hs2 hs3 hs4
 have hz1:=blkFrozen H1.out.get0
 go_upto_region 7 with fail
 have HX2:=Hq (show(w1.setCell ⟨w.heap.size,2,none⟩ (.bool true)).heap[w.heap.size]? =some (.cells #[.slice A L.length c,(),true] 29 (0,0))from by have h:=(H1.out.set 0 2 (.bool true) _ rfl).get 0 _ rfl;simpa using h)
 have H2:=Hq (H1.out.set 0 2 (.bool true) _ rfl)
 go_wp2_with (first|(with_reducible refine lL HX2.out Tryz.underlying29 ?_)|(with_reducible refine lS #[.slice A L.length c,(),true] H2.out.get1 ?_))
 refine bodyPost_ret (v:=.tuple #[.agg #[.slice A L.length c,(),true],.int .i64 20]) (results_cell2 rfl _ _ rfl (load_whole (setRow_heap _ _ _ _ _ _ H2.out.get1) Tryz.underlying29 Kr Kr) rfl) rfl ?_
 exact HO.out _ ((H2.out.row 1 _ _ rfl).below)
theorem rwrite_on (L:List ByteArray)(left:Int)(hl0:left≠0)(hlb: -9223372036854775808≤left∧left≤9223372036854775807)(A:Option Addr)(c:Nat)(k:Nat)(b:ByteArray)(hk:k<L.length)(hs:b.size=128)(x:Lg.Dk×Int)(hx:x=(⟨L.set k b,if 0<left then left-1 else left,false⟩,0))(w:World)(h:DiskR w ⟨L,left,false⟩ A c):
 Calls Tryz.prog 72 #[.agg #[.slice A L.length c,left,false],.int .i64 (k:Int),b] w (WriteOut x A w):=by
 have HH:=Hq (fun W=>ris_any ⟨L,left,false⟩ A c k W)
 rw[decide_eq_true (show Lg.hasD ⟨L,left,false⟩ (k:Int)from⟨by omega,by show(k:Int)<(L.length:Int);omega⟩)]at HH
 have hs1:((b.size:Int)==128)=true:=by simp;omega
 have hs2:((b.size:Int) != 128)=false:=by simp;omega
 have hl1:(left==0)=false:=by simpa using hl0
 have hlen:L.length≤1000000:=h.small
 have HC:=Hq (fun left W (hb:Below w.heap.size w W)=>rwith_any L left false A c k b hk hlen W (h.secs.below hb))
 have HX:=Hq hx
 clear hx h hs
 dsimp only[diskV]at HH
 go_enter Tryz.func72,Tryz.ntmps72
 go_upto_region 1 with fail
 have H0:=nW2 w #[.slice A L.length c,left,false] 29 #["s",(),false] 29
 have hc0:=blkCell H0.out.get0
 obtain⟨W0,hW0⟩:=exW H0
 rw[← hW0]at H0 hc0 ⊢
 clear hW0
 have HX0:=Hq (show W0.heap[w.heap.size]? =some (.cells #[.slice A L.length c,left,false] 29 (0,0))from(by have h:=H0.out.get0;simpa using h))
 go_upto_region 8 with(first|(with_reducible refine lL HX0.out Tryz.underlying29 ?_)|(go_at_call 78;(with_reducible refine(HH.out _).mono ?_);rintro e w1 ⟨rfl,hb1⟩;have H1:=Hq (H0.out.step hb1);clear hb1;have hc1:=blkCell H1.out.get0))
 clear hs1 hs2 hl1 HH hc0 HX0 H0
 by_cases hp:0<left
 ·rw[if_pos hp]at HX
  have hwl:IntKind.i64.wrap (left-1)=left-1:=IntWalk.i64_in _ (by omega)
  have hz1:=blkFrozen H1.out.get0
  go_upto_region 10 with fail
  have H5:=Hq (H1.out.set 0 1 (.int .i64 (left-1)) _ rfl)
  have HX5:=Hq (show(w1.setCell ⟨w.heap.size,1,none⟩ (.int .i64 (left-1))).heap[w.heap.size]? =some (.cells #[.slice A L.length c,.int .i64 (left-1),false] 29 (0,0))from by have h:=H5.out.get0;simpa using h)
  simp only[Nat.add_zero]at H5
  obtain⟨W5,hW5⟩:=ex (w1.setCell ⟨w.heap.size,1,none⟩ (.int .i64 (left-1)))
  rw[← hW5]at H5 HX5 ⊢
  clear hW5 hz1 hc1 H1
  go_wp2_with (first
   |(with_reducible refine lL HX5.out Tryz.underlying29 ?_)
   |(go_at_call 112;(with_reducible refine(HC.out _ _ H5.out.below).mono ?_);rintro e w6 ⟨A2,c2,rfl,hr6,ht6,hb6⟩;have H6:=Hq (H5.out.step hb6))
   |(with_reducible refine lS #[.slice A2 L.length c2,.int .i64 (left-1),false] H6.out.get1 ?_))
  refine bodyPost_ret (v:=.tuple #[.agg #[.slice A2 L.length c2,.int .i64 (left-1),false],()]) (results_cell2 rfl _ _ rfl (load_whole (setRow_heap _ _ _ _ _ _ H6.out.get1) Tryz.underlying29 Kr Kr) rfl) rfl ?_
  exact write_new HX.out (by rw[List.length_set]) (ht6.readsRow hr6 H6.out.get1 (by decide) _) rfl rfl (by rw[List.length_set];exact hlen) ((ht6.row _ _).mono H5.out.below.size) ((H6.out.row 1 _ _ rfl).below)
 ·rw[if_neg hp]at HX
  have HX1:=Hq (show w1.heap[w.heap.size]? =some (.cells #[.slice A L.length c,left,false] 29 (0,0))from(by have h:=H1.out.get0;simpa using h))
  go_wp2_with (first
   |(with_reducible refine lL HX1.out Tryz.underlying29 ?_)
   |(go_at_call 112;(with_reducible refine(HC.out _ _ H1.out.below).mono ?_);rintro e w6 ⟨A2,c2,rfl,hr6,ht6,hb6⟩;have H6:=Hq (H1.out.step hb6))
   |(with_reducible refine lS #[.slice A2 L.length c2,left,false] H6.out.get1 ?_))
  refine bodyPost_ret (v:=.tuple #[.agg #[.slice A2 L.length c2,left,false],()]) (results_cell2 rfl _ _ rfl (load_whole (setRow_heap _ _ _ _ _ _ H6.out.get1) Tryz.underlying29 Kr Kr) rfl) rfl ?_
  exact write_new HX.out (by rw[List.length_set]) (ht6.readsRow hr6 H6.out.get1 (by decide) _) rfl rfl (by rw[List.length_set];exact hlen) ((ht6.row _ _).mono H1.out.below.size) ((H6.out.row 1 _ _ rfl).below)
theorem rwrite_any (d:Lg.Dk)(hlb: -9223372036854775808≤d.left∧d.left≤9223372036854775807)(A:Option Addr)(c:Nat)(a:Int)(b:ByteArray)(w:World)(h:DiskR w d A c):
 Calls Tryz.prog 72 #[diskV d A c,a,b] w (WriteOut (Lg.writeD d a b) A w):=by
 obtain⟨L,left,down⟩:=d
 cases down with
 |true=>exact rwrite_down L left A c a b _ (by unfold Lg.writeD;rw[if_pos rfl]) w h
 |false=>
  by_cases h1:Lg.hasD ⟨L,left,false⟩ a∧b.size=128
  ·by_cases h2:left=0
   ·subst h2
    exact rwrite_out L A c a b h1.1 h1.2 _ (by unfold Lg.writeD;rw[if_neg (by simp),if_neg (fun hn=>hn h1),if_pos rfl]) w h
   ·obtain⟨k,rfl⟩:=Int.eq_ofNat_of_zero_le h1.1.1
    have hk:k<L.length:=by have h3:=h1.1.2;simp only at h3;omega
    exact rwrite_on L left h2 hlb A c k b hk h1.2 _ (by unfold Lg.writeD;rw[if_neg (by simp),if_neg (fun hn=>hn h1),if_neg h2];simp) w h
  ·exact rwrite_arg L left A c a b h1 _ (by unfold Lg.writeD;rw[if_neg (by simp),if_pos h1]) w h
theorem filled_any (s:ByteArray)(hs:s.size≤128)(w:World):
 Calls Tryz.prog 73 #[s] w fun e w'=>e= .returned (.string (Lg.pad128 s.data.toList))∧Below w.heap.size w w':=by
 obtain⟨k,hk⟩:=ex (128-s.size)
 have hw:IntKind.i64.wrap ((128:Int)-(s.size:Int))=(k:Int):=by
  have e:(128:Int)-(s.size:Int)=(k:Int):=by omega
  rw[e];exact IntWalk.i64_in _ (by omega)
 have hmk:=fun W=>make_zeros k (by omega) W
 have hcv:=zeros_back k
 have hpad:Lg.pad128 s.data.toList=s++⟨(List.replicate k 0).toArray⟩:=by
  unfold Lg.pad128
  apply ByteArray.ext
  rw[ByteArray.data_append]
  apply Array.toList_inj.1
  have hl:s.data.toList.length=s.size:=by simp
  simp[hk]
 have hrs:(⟨(List.replicate k 0).toArray⟩:ByteArray).size=k:=by show(List.replicate k (0:UInt8)).toArray.size=_;simp
 rw[hpad]
 generalize (⟨(List.replicate k 0).toArray⟩:ByteArray)=R at hcv hrs ⊢
 have hadd:∀ W:World,(Op.stringOp .add s R).run Tryz.prog W= .ok (.string (s++R)) W:=fun W=>run_string_add_sum W _ _ (by omega)
 clear hpad hk
 go_enter Tryz.func73,Tryz.ntmps73
 go_wp2_with fail
 go_ret
 exact⟨rfl,allocB _ _⟩
theorem piece_any (t:ByteArray)(ht:t.size≤1000000)(k:Nat)(hk:k*128≤t.size)(w:World):
 Calls Tryz.prog 74 #[t,.int .i64 (k:Int)] w fun e w'=>e= .returned (.string (Lg.pad128 ((t.data.toList.drop (k*128)).take 128)))∧Below w.heap.size w w':=by
 obtain⟨a,ha⟩:=ex (k*128)
 rw[← ha]at hk ⊢
 have hw1:IntKind.i64.wrap ((k:Int)*128)=(a:Int):=by
  have e:(k:Int)*128=(a:Int):=by omega
  rw[e];exact IntWalk.i64_in _ (by omega)
 have hw2:IntKind.i64.wrap ((a:Int)+128)=(a:Int)+128:=IntWalk.i64_in _ (by omega)
 obtain⟨m,hm⟩:=ex (min (a+128) t.size)
 have hmm:min ((a:Int)+128) (t.size:Int)=(m:Int):=by omega
 have hm1:a≤m:=by omega
 have hm2:m≤t.size:=by omega
 have hm3:(a:Int)≤(m:Int):=by omega
 have hm4:(m:Int)≤(t.size:Int):=by omega
 have hx:(t.extract a m).data.toList=(t.data.toList.drop a).take 128:=by
  simp only[ByteArray.data_extract,Array.toList_extract,List.extract_eq_take_drop]
  have hl:t.data.toList.length=t.size:=by simp
  by_cases h:a+128≤t.size
  ·rw[show m-a=128 by omega]
  ·rw[List.take_of_length_le (by rw[List.length_drop];omega),List.take_of_length_le (by rw[List.length_drop];omega)]
 have HF:=Hq (fun W=>filled_any (t.extract a m) (by rw[ByteArray.size_extract];omega) W)
 rw[hx]at HF
 clear hx hm ha
 go_enter Tryz.func74,Tryz.ntmps74
 go_wp2_with (go_at_call 73;(with_reducible refine(HF.out _).mono ?_);rintro e w1 ⟨rfl,hb1⟩)
 go_ret
 exact⟨rfl,hb1⟩
structure DkR (n:Nat) (w:World) (d:Lg.Dk) (A0 A:Option Addr) (c:Nat):Prop where
 dk:DiskR w d A c
 dt:NewT 0 w 9 A
 nw:A=A0∨NewT n w 9 A
theorem DkR.below {n:Nat}{w w':World}{d:Lg.Dk}{A0 A:Option Addr}{c:Nat}(h:DkR n w d A0 A c)(hb:Below w.heap.size w w'):DkR n w' d A0 A c:=⟨h.dk.below hb,h.dt.below hb,h.nw.imp id (fun k=>k.below hb)⟩
theorem DkR.row {n:Nat}{w:World}{d:Lg.Dk}{A0 A:Option Addr}{c:Nat}(h:DkR n w d A0 A c){b:Nat}{cur:Array Value}{t:TypeId}{fr:Nat×Nat}(hb:w.heap[b]? =some (.cells cur t fr))(h1:t≠9)(cs:Array Value):DkR n (w.setRow b cs) d A0 A c:=
 ⟨⟨h.dt.readsRow h.dk.secs hb h1 cs,h.dk.small⟩,h.dt.row b cs,h.nw.imp id (fun k=>k.row b cs)⟩
theorem DkR.set {n:Nat}{w:World}{d:Lg.Dk}{A0 A:Option Addr}{c:Nat}(h:DkR n w d A0 A c){b:Nat}{cur:Array Value}{t:TypeId}{fr:Nat×Nat}(hb:w.heap[b]? =some (.cells cur t fr))(h1:t≠9)(j:Nat)(v:Value):DkR n (w.setCell ⟨b,j,none⟩ v) d A0 A c:=by
 rw[setCell_eq_setRow w b j cur t fr v hb]
 exact h.row hb h1 _
theorem DkR.put {n:Nat}{w w':World}{d d':Lg.Dk}{A0 A A':Option Addr}{c c':Nat}(h:DkR n w d A0 A c)(hn:n≤w.heap.size)(hd:DiskR w' d' A' c')(ha:A'=A∨NewT w.heap.size w' 9 A')(hb:Below w.heap.size w w'):DkR n w' d' A0 A' c':=
 ⟨hd,ha.elim (fun e=>by rw[e];exact h.dt.below hb) (fun k=>k.mono (Nat.zero_le _)),ha.elim (fun e=>by rw[e];exact h.nw.imp id (fun k=>k.below hb)) (fun k=>.inr (k.mono hn))⟩
theorem rforce_none (d:Lg.Dk)(A:Option Addr)(c:Nat)(fr n en:Int)(tl:ByteArray)(o:Lg.Dk×Lg.Lo×Int)(ho:o=(d,⟨fr,n,en,en,tl⟩,0))(w:World)(h:DiskR w d A c):
 Calls Tryz.prog 34 #[.agg #[.slice A d.sectors.length c,d.left,d.down],.agg #[fr,n,en,en,tl]] w (ForceOut o A w):=by
 have HO:=Hq (fun w' (hb:Below w.heap.size w w')=>show ForceOut o A w (.returned (.tuple #[.agg #[.slice A d.sectors.length c,d.left,d.down],.agg #[fr,n,en,en,tl],()])) w' from by
  subst ho;exact⟨A,c,rfl,⟨h.secs.below hb,h.small⟩,.inl rfl,hb⟩)
 clear ho h
 go_enter Tryz.func34,Tryz.ntmps34
 go_upto_region 1 with fail
 have H0:=nW4 w #[.slice A d.sectors.length c,d.left,d.down] 29 #[fr,n,en,en,tl] 31 #["s",(),false] 29 #[(),(),(),(),""] 31
 obtain⟨W0,hW0⟩:=exW H0
 rw[← hW0]at H0 ⊢
 clear hW0
 have hc1:=blkCell H0.out.get1
 have hle:en≤en:=Int.le_refl _
 go_upto_region 2 with fail
 clear hc1 hle
 have HD:=Hq H0.out.drew
 have X0:=HD.out.get0
 have Y0:=HD.out.get1
 refine rgH (S:=(fun u=>u.heap[w.heap.size]? =some (.cells #[.slice A d.sectors.length c,d.left,d.down] 29 (0,0))∧u.heap[(w.heap.size+1)]? =some (.cells #[fr,n,en,en,tl] 31 (0,0)))) (fun hHeld=>?_) (by first|exact hSn|exact⟨X0,Y0⟩)
 refine tkL 0 Tryz.underlying29 ?_
 refine tkL 1 Tryz.underlying31 ?_
 refine rdP 2 fun K hK=>?_
 refine wantedIf (by rfl) ?_
 refine sW #[.slice A d.sectors.length c,d.left,d.down] HD.out.get2 ?_
 have HE:=Hq (HD.out.row 2 #[.slice A d.sectors.length c,d.left,d.down] _ rfl)
 have X1:=HE.out.get0
 have Y1:=HE.out.get1
 have hSn:=And.intro X1 Y1
 refine hKo hK (fun hHeld=>?_) (by first|exact hSn|exact⟨X0,Y0⟩)
 clear hK K
 try simp only[Act.put]
 refine rdP 3 fun K hK=>?_
 refine wantedIf (by rfl) ?_
 refine sW #[fr,n,en,en,tl] HE.out.g3 ?_
 have HG:=Hq (HE.out.row 3 #[fr,n,en,en,tl] _ rfl)
 try clear hSn
 have hSn:=And.intro HG.out.get0 HG.out.get1
 refine hKo hK (fun hHeld=>?_) (by first|exact hSn|exact⟨X0,Y0⟩)
 clear hK K
 try simp only[Act.put]
 refine tkP 4 ?_
 refine wpAnyH_done Kr ?_ _
 clear hHeld hSn
 go_wp2_with fail
 refine bodyPost_ret (v:=.tuple #[.agg #[.slice A d.sectors.length c,d.left,d.down],.agg #[fr,n,en,en,tl],()]) (results_cells rfl _ _ rfl rfl (load_whole HG.out.get2 Tryz.underlying29 Kr Kr) (load_whole HG.out.g3 Tryz.underlying31 Kr Kr) rfl) rfl ?_
 exact HO.out _ HG.out.below
theorem rforce_go (d:Lg.Dk)(hlb: -9223372036854775808≤d.left∧d.left≤9223372036854775807)(A:Option Addr)(c:Nat)(fr n en sf:Int)(tl:ByteArray)(hse:sf<en)(hs0:0≤sf)(he1:en≤1000000000)(_hn0: -1000000000≤n)(_hn1:n≤1000000000)(hf0: -1000000000≤fr)(hf1:fr≤1000000000)(ht:tl.size≤1000000)(hal:en-(tl.size:Int)=sf-sf%128)(w:World)(h:DiskR w d A c)(hT:NewT 0 w 9 A):
 Calls Tryz.prog 34 #[.agg #[.slice A d.sectors.length c,d.left,d.down],.agg #[fr,n,en,sf,tl]] w (ForceOut (Lg.forceD d ⟨fr,n,en,sf,tl⟩) A w):=by
 have hne:¬ sf=en:=by omega
 have HST:=Hq (fun d2 e (he:e≠0) hp=> @Lg.force_stop d d2 ⟨fr,n,en,sf,tl⟩ e hne he hp)
 have HAL:=Hq (fun d2 hp=> @Lg.force_all d d2 ⟨fr,n,en,sf,tl⟩ hne hp)
 have HO:=Hq (fun A' c' w' x (hx:Lg.forceD d ⟨fr,n,en,sf,tl⟩=x) (h1:DkR w.heap.size w' x.1 A A' c') (h3:Below w.heap.size w w')=>show ForceOut (Lg.forceD d ⟨fr,n,en,sf,tl⟩) A w (.returned (.tuple #[diskV x.1 A' c',logV x.2.1,x.2.2])) w' from⟨A',c',by rw[hx],by rw[hx];exact h1.dk,h1.nw,h3⟩)
 have HDK0:=Hq (show DkR w.heap.size w d A A c from⟨h,hT,.inl rfl⟩)
 have hfirst:Lg.firstS ⟨fr,n,en,sf,tl⟩=sf/128:=Lg.Al.first ⟨hs0,Int.le_of_lt hse,hal⟩
 have hcb:=Lg.cutB_length tl
 have hpos:0<tl.size:=by omega
 obtain⟨C,hC⟩:=ex (Lg.cutB tl)
 have hCG:∀ k,k*128<tl.size→C[k]? =some (Lg.pad128 ((tl.data.toList.drop (k*128)).take 128)):=by rw[hC];exact fun k hk=>Lg.cutB_get tl k hk
 obtain⟨all,hall⟩:=ex (Lg.allS ⟨fr,n,en,sf,tl⟩)
 have hdef:all=if sf/128+(C.length:Int)<n then C++[Lg.zero128]else C:=by rw[hall,hC];unfold Lg.allS;rw[hfirst]
 rw[← hall]at HST HAL
 rw[hfirst]at HST HAL
 rw[← hC]at hcb
 generalize Lg.forceD d ⟨fr,n,en,sf,tl⟩=o at HST HAL HO ⊢
 generalize ForceOut o A w=Q at HO ⊢
 obtain⟨m,hm⟩:=ex ((tl.size-1)/128:Nat)
 have hcl:C.length=m+1:=by omega
 have hmt:m*128<tl.size:=by omega
 obtain⟨F,hF⟩:=ex (sf/128:Int)
 have hF0:0≤F:=by omega
 have hF1:F≤10000000:=by omega
 have hfl:(⟨#[]⟩:ByteArray).size≤128:=by decide
 have HFL:=Hq (fun W=>show Calls Tryz.prog 73 #[""] W fun e w'=>e= .returned (.string Lg.zero128)∧Below W.heap.size W w' from by
  have h9:=filled_any ⟨#[]⟩ hfl W
  rw[show Lg.pad128 (⟨#[]⟩:ByteArray).data.toList=Lg.zero128 from Lg.pad_none]at h9
  exact h9)
 have HFI:=Hq (fun W=>show Calls Tryz.prog 71 #[.agg #[fr,n,en,sf,tl]] W fun e w'=>e= .returned (.int .i64 F)∧Below W.heap.size W w' from by
  have h9:=rfirst_any fr n en sf tl hs0 (by omega) W
  rw[← hF]at h9
  exact h9)
 obtain⟨G,hG⟩:=ex (en/128:Int)
 have HFM:=Hq (fun W=>show Calls Tryz.prog 71 #[.agg #[fr,n,en,en,tl]] W fun e w'=>e= .returned (.int .i64 G)∧Below W.heap.size W w' from by
  have h9:=rfirst_any fr n en en tl (by omega) he1 W
  rw[← hG]at h9
  exact h9)
 have HPC:=Hq (fun(k:Nat) (hk:k≤m) W=>show Calls Tryz.prog 74 #[tl,.int .i64 (k:Int)] W fun e w'=>e= .returned (.string (all[k]?.getD ⟨#[]⟩))∧Below W.heap.size W w' from by
  have h9:=piece_any tl ht k (by omega) W
  have e:all[k]? =C[k]? :=by
   rw[hdef]
   split
   ·exact List.getElem?_append_left (by omega)
   ·rfl
  rw[e,hCG k (by omega)]
  exact h9)
 have HTOP:=Hq (show(F+(m:Int)+1<n→all.length=m+1+1∧all[m+1]?.getD ⟨#[]⟩=Lg.zero128)∧(¬ F+(m:Int)+1<n→all.length=m+1)from by
  constructor
  ·intro hfit
   rw[hdef,if_pos (by rw[hcl];omega)]
   refine⟨by rw[List.length_append,hcl];rfl,?_⟩
   rw[List.getElem?_append_right (by omega),hcl]
   simp
  ·intro hfit
   rw[hdef,if_neg (by rw[hcl];omega),hcl])
 obtain⟨q,hq⟩:=ex (tl.size-(en%128).toNat:Nat)
 have hgq:(G-F)*128=(q:Int):=by omega
 have hqs:q≤tl.size:=by omega
 have HTL:=Hq (show Lg.forcedL ⟨fr,n,en,sf,tl⟩=⟨fr,n,en,en,tl.extract q tl.size⟩from by
  rw[hq];rfl)
 have hg0:0≤G:=by omega
 have hg1:G≤10000000:=by omega
 have hm1:m≤10000:=by omega
 have HQ1:=Hq (show IntKind.i64.wrap (G-F)=G-F from IntWalk.i64_in _ (by omega))
 have HQ2:=Hq (show IntKind.i64.wrap ((G-F)*128)=(q:Int)from by rw[hgq];exact IntWalk.i64_in _ (by omega))
 have HQ3:=Hq (show min (q:Int) (tl.size:Int)=(q:Int)from by omega)
 have HQ4:=Hq hqs
 have hw0:IntKind.i64.wrap ((tl.size:Int)-1)=(tl.size:Int)-1:=IntWalk.i64_in _ (by omega)
 have hw1:IntKind.i64.wrap (((tl.size:Int)-1).tdiv 128)=(m:Int):=by
  have e:((tl.size:Int)-1).tdiv 128=(m:Int):=by
   rw[Int.tdiv_eq_ediv_of_nonneg (by omega)];omega
  rw[e];exact IntWalk.i64_in _ (by omega)
 rw[← hF]at HST HAL
 have hnge:¬ en≤sf:=by omega
 generalize Lg.zero128=z at HFL HTOP
 have HLB:=Hq hlb
 clear h hT hse hs0 he1 _hn0 _hn1 ht hal hne hfirst hcb hpos hC hCG hall hdef hm hcl hmt hF hG hq hgq hqs hfl hlb
 go_enter Tryz.func34,Tryz.ntmps34
 go_upto_region 1 with fail
 have H0:=nW4 w #[.slice A d.sectors.length c,d.left,d.down] 29 #[fr,n,en,sf,tl] 31 #["s",(),false] 29 #[(),(),(),(),""] 31
 obtain⟨W0,hW0⟩:=exW H0
 rw[← hW0]at H0 ⊢
 clear hW0
 have hc1:=blkCell H0.out.get1
 go_upto_region 4 with fail
 clear hc1 hw0 hw1 hnge
 have K0:=H0.out.drew
 have XL:=K0.get1
 have hw1:IntKind.i64.wrap (F+(m:Int))=F+(m:Int):=IntWalk.i64_in _ (by omega)
 have hw2:IntKind.i64.wrap (F+(m:Int)+1)=F+(m:Int)+1:=IntWalk.i64_in _ (by omega)
 refine rgH (S:=(fun u=>u.heap[w.heap.size+1]? =some (.cells #[fr,n,en,sf,tl] 31 (0,0)))) (fun hHeld=>?_)
 refine tkL 0 Tryz.underlying31 ?_
 refine tkP 2 ?_;refine tkP 5 ?_;refine tkP 6 ?_
 refine rdP 1 fun K hK=>?_
 go_simp
 refine(HFI.out _).mono ?_;rintro e w3 ⟨rfl,hb3⟩
 have hSn:=blkOld XL hb3
 refine hKo hK (fun hHeld=>?_)
 clear hK K
 refine tkP 3 ?_;refine tkP 4 ?_;refine tkP 7 ?_
 refine wpAnyH_done Kr ?_ _
 clear hHeld hSn
 have H1:=Hq (K0.step hb3)
 clear hb3 K0 XL H0
 have HDK:=Hq (HDK0.out.below H1.out.below)
 go_upto_if 33 with fail
 clear hw1 hw2
 go_cut [7] (fun s7 wc=>s7= .int .i64 (m:Int)∧∃ (d2:Lg.Dk) (A2:Option Addr) (c2:Nat),Lg.putAll (fr+F) all all.length d=Lg.putAll (fr+F) all (m+1) d2∧BxL w.heap.size w [(#[.slice A2 d2.sectors.length c2,d2.left,d2.down],29),(#[fr,n,en,sf,tl],31),(#["s",(),false],29),(#[(),(),(),(),""],31)] wc∧DkR w.heap.size wc d2 A A2 c2∧(-9223372036854775808≤d2.left∧d2.left≤9223372036854775807))
 case first=>
  by_cases hfit:F+(m:Int)+1<n
  ·obtain⟨hlen,hz⟩:=HTOP.out.1 hfit
   have hwl:= @Lg.writeD_left d (fr+F+(m:Int)+1) z HLB.out
   have HWR:=Hq (fun W hW=>rwrite_any d HLB.out A c (fr+F+(m:Int)+1) z W hW)
   rcases hx:Lg.writeD d (fr+F+(m:Int)+1) z with⟨d3,e3⟩
   have ha:fr+F+((m+1:Nat):Int)=fr+F+(m:Int)+1:=by omega
   have HGO:=Hq (fun(he:e3=0)=>Lg.putAll_go (base:=fr+F) (all:=all) (k:=m+1) (d:=d) (d2:=d3) (by rw[hz,ha,hx,he]))
   have HSTP:=Hq (fun(he:e3≠0)=>Lg.putAll_stop (base:=fr+F) (all:=all) (k:=m+1) (d:=d) (d2:=d3) he (by rw[hz,ha,hx]))
   rw[hx]at HWR hwl
   rw[← hlen]at HGO HSTP
   simp only at hwl
   have HWL:=Hq hwl
   clear hx hwl ha hz hlen
   have hs1:IntKind.i64.wrap (fr+F)=fr+F:=IntWalk.i64_in _ (by omega)
   have hs2:IntKind.i64.wrap (fr+F+(m:Int))=fr+F+(m:Int):=IntWalk.i64_in _ (by omega)
   have hs3:IntKind.i64.wrap (fr+F+(m:Int)+1)=fr+F+(m:Int)+1:=IntWalk.i64_in _ (by omega)
   go_upto_region 5 with fail
   go_cut [8,9] (fun p q wc=>∃ (g:Nat) (A3:Option Addr) (c3:Nat),p= .pointer (some ⟨g,0,none⟩)∧q= .int .i64 e3∧BxL w.heap.size w [(#[.slice A d.sectors.length c,d.left,d.down],29),(#[fr,n,en,sf,tl],31),(#["s",(),false],29),(#[(),(),(),(),""],31)] wc∧w.heap.size+4≤g∧wc.heap[g]? =some (.cells #[.slice A3 d3.sectors.length c3,d3.left,d3.down] 29 (0,0))∧DkR w.heap.size wc d3 A A3 c3)
   case first=>
    have HB:=H1
    have HK:=HDK
    clear H1 HDK HGO HSTP HO HST HAL HPC HTOP HFM HTL HQ1 HQ2 HQ3 HQ4
    have HB:=Hq HB.out.drew
    have HK:=Hq (HK.out.below (Below.refl _ w3).drew)
    refine rgH (S:=(fun u=>u.heap[w.heap.size]? =some (.cells #[.slice A d.sectors.length c,d.left,d.down] 29 (0,0))∧u.heap[w.heap.size+1]? =some (.cells #[fr,n,en,sf,tl] 31 (0,0)))) (fun hHeld=>?_) ⟨HB.out.get0,HB.out.get1⟩
    refine tkL 0 Tryz.underlying29 ?_
    refine tkP 1 ?_;refine tkP 2 ?_
    refine tkL 3 Tryz.underlying31 ?_
    refine tkP 6 ?_
    refine wpAnyH_ready (rs:=[4,14]) Kr (by simp) ?_
    refine(AllReadyH.cons (o:={dst:=some 39,op:=_,type:=_,pos:=_,after:=_,guard:=_}) rfl (fun K hK=>?_) (AllReadyH.cons (o:={dst:=some 8,op:=_,type:=_,pos:=_,after:=_,guard:=_}) rfl (fun K hK=>?_) AllReadyH.nil))
    ·
     go_simp
     refine(HFI.out _).mono ?_;rintro e wf ⟨rfl,hb5⟩;have HK:=Hq (HK.out.below hb5);have HB:=Hq (HB.out.step hb5);clear hb5;(try clear hSn);have hSn:=And.intro HB.out.get0 HB.out.get1
     refine hKo hK (fun hHeld=>?_)
     clear hK K
     refine tkP 5 ?_;refine tkP 7 ?_;refine tkP 8 ?_
     refine wpAnyH_ready (rs:=[9,14]) Kr (by simp) ?_
     refine(AllReadyH.cons (o:={dst:=some 44,op:=_,type:=_,pos:=_,after:=_,guard:=_}) rfl (fun K hK=>?_) (AllReadyH.cons (o:={dst:=some 8,op:=_,type:=_,pos:=_,after:=_,guard:=_}) rfl (fun K hK=>?_) AllReadyH.nil))
     ·
      go_simp
      refine(HFL.out _).mono ?_;rintro e wm ⟨rfl,hb5⟩;have HK:=Hq (HK.out.below hb5);have HB:=Hq (HB.out.step hb5);clear hb5;(try clear hSn);have hSn:=And.intro HB.out.get0 HB.out.get1
      refine hKo hK (fun hHeld=>?_)
      clear hK K
      refine wpAnyH_ready (rs:=[10,14]) Kr (by simp) ?_
      refine(AllReadyH.cons (o:={dst:=some 45,op:=_,type:=_,pos:=_,after:=_,guard:=_}) rfl (fun K hK=>?_) (AllReadyH.cons (o:={dst:=some 8,op:=_,type:=_,pos:=_,after:=_,guard:=_}) rfl (fun K hK=>?_) AllReadyH.nil))
      ·
       go_simp
       refine(HWR.out _ HK.out.dk).mono ?_;rintro e ww ⟨A3,c3,rfl,hd5,ha5,hb5⟩;have HK:=Hq (HK.out.put (by have:=HB.out.lt (i:=3) (by simp);omega) hd5 ha5 hb5);have HB:=Hq (HB.out.step hb5);clear hb5 hd5 ha5;(try clear hSn);have hSn:=And.intro HB.out.get0 HB.out.get1
       refine hKo hK (fun hHeld=>?_)
       clear hK K
       refine tkP 11 ?_;refine tkP 12 ?_;refine tkP 13 ?_
       refine rdP 14 fun K hK=>?_
       go_simp
       have hg4:w.heap.size+4≤ww.heap.size:=HB.out.lt (i:=3) (by simp);have HK:=Hq (HK.out.below (allocB ww (.cells #["s",(),false] 29)));have HB:=Hq (HB.out.step (allocB ww (.cells #["s",(),false] 29)));have HG:=Hq (heap_alloc_new ww (.cells #["s",(),false] 29));(try clear hSn);have hSn:=And.intro HB.out.get0 HB.out.get1
       refine hKo hK (fun hHeld=>?_)
       clear hK K
       refine rdP 15 fun K hK=>?_
       refine wantedIf (by rfl) ?_
       refine sW #[.slice A3 d3.sectors.length c3,d3.left,d3.down] HG.out ?_
       have HK:=Hq (HK.out.row HG.out (by decide) #[.slice A3 d3.sectors.length c3,d3.left,d3.down])
       have HB:=Hq (HB.out.under (M:=ww.heap.size) (by show w.heap.size+4≤_;exact hg4) (below_setRow (Below.refl ww.heap.size (ww.alloc (.cells #["s",(),false] 29))) (Nat.le_refl ww.heap.size) #[.slice A3 d3.sectors.length c3,d3.left,d3.down]))
       have HG:=Hq (show((ww.alloc (.cells #["s",(),false] 29)).setRow ww.heap.size #[.slice A3 d3.sectors.length c3,d3.left,d3.down]).heap[ww.heap.size]? =some (.cells #[.slice A3 d3.sectors.length c3,d3.left,d3.down] 29 (0,0))from setRow_heap _ _ _ _ _ _ HG.out)
       (try clear hSn);have hSn:=And.intro HB.out.get0 HB.out.get1
       refine hKo hK (fun hHeld=>?_)
       clear hK K
       try simp only[Act.put]
       refine tkP 16 ?_
       refine wpAnyH_done Kr ?_ _
       clear hHeld hSn
       go_wp2_with fail
       go_meet
       case rel=>exact⟨_,A3,c3,rfl,rfl,HB.out,hg4,HG.out,HK.out⟩
      ·
       go_simp
       have hg4:w.heap.size+4≤wm.heap.size:=HB.out.lt (i:=3) (by simp);have HK:=Hq (HK.out.below (allocB wm (.cells #["s",(),false] 29)));have HB:=Hq (HB.out.step (allocB wm (.cells #["s",(),false] 29)));have HG:=Hq (heap_alloc_new wm (.cells #["s",(),false] 29));(try clear hSn);have hSn:=And.intro HB.out.get0 HB.out.get1
       refine hKo hK (fun hHeld=>?_)
       clear hK K
       refine rdP 10 fun K hK=>?_
       go_simp
       refine(HWR.out _ HK.out.dk).mono ?_;rintro e ww ⟨A3,c3,rfl,hd5,ha5,hb5⟩;have HK:=Hq (HK.out.put (by have:=HB.out.lt (i:=3) (by simp);omega) hd5 ha5 hb5);have HB:=Hq (HB.out.step hb5);have HG:=Hq (blkOld HG.out hb5);clear hb5 hd5 ha5;(try clear hSn);have hSn:=And.intro HB.out.get0 HB.out.get1
       refine hKo hK (fun hHeld=>?_)
       clear hK K
       refine tkP 11 ?_;refine tkP 12 ?_;refine tkP 13 ?_
       refine rdP 15 fun K hK=>?_
       refine wantedIf (by rfl) ?_
       refine sW #[.slice A3 d3.sectors.length c3,d3.left,d3.down] HG.out ?_
       have HK:=Hq (HK.out.row HG.out (by decide) #[.slice A3 d3.sectors.length c3,d3.left,d3.down])
       have HB:=Hq (HB.out.under (M:=wm.heap.size) (by show w.heap.size+4≤_;exact hg4) (below_setRow (Below.refl wm.heap.size ww) (Nat.le_refl wm.heap.size) #[.slice A3 d3.sectors.length c3,d3.left,d3.down]))
       have HG:=Hq (show(ww.setRow wm.heap.size #[.slice A3 d3.sectors.length c3,d3.left,d3.down]).heap[wm.heap.size]? =some (.cells #[.slice A3 d3.sectors.length c3,d3.left,d3.down] 29 (0,0))from setRow_heap _ _ _ _ _ _ HG.out)
       (try clear hSn);have hSn:=And.intro HB.out.get0 HB.out.get1
       refine hKo hK (fun hHeld=>?_)
       clear hK K
       try simp only[Act.put]
       refine tkP 16 ?_
       refine wpAnyH_done Kr ?_ _
       clear hHeld hSn
       go_wp2_with fail
       go_meet
       case rel=>exact⟨_,A3,c3,rfl,rfl,HB.out,hg4,HG.out,HK.out⟩
     ·
      go_simp
      have hg4:w.heap.size+4≤wf.heap.size:=HB.out.lt (i:=3) (by simp);have HK:=Hq (HK.out.below (allocB wf (.cells #["s",(),false] 29)));have HB:=Hq (HB.out.step (allocB wf (.cells #["s",(),false] 29)));have HG:=Hq (heap_alloc_new wf (.cells #["s",(),false] 29));(try clear hSn);have hSn:=And.intro HB.out.get0 HB.out.get1
      refine hKo hK (fun hHeld=>?_)
      clear hK K
      refine rdP 9 fun K hK=>?_
      go_simp
      refine(HFL.out _).mono ?_;rintro e wm ⟨rfl,hb5⟩;have HK:=Hq (HK.out.below hb5);have HB:=Hq (HB.out.step hb5);have HG:=Hq (blkOld HG.out hb5);clear hb5;(try clear hSn);have hSn:=And.intro HB.out.get0 HB.out.get1
      refine hKo hK (fun hHeld=>?_)
      clear hK K
      refine rdP 10 fun K hK=>?_
      go_simp
      refine(HWR.out _ HK.out.dk).mono ?_;rintro e ww ⟨A3,c3,rfl,hd5,ha5,hb5⟩;have HK:=Hq (HK.out.put (by have:=HB.out.lt (i:=3) (by simp);omega) hd5 ha5 hb5);have HB:=Hq (HB.out.step hb5);have HG:=Hq (blkOld HG.out hb5);clear hb5 hd5 ha5;(try clear hSn);have hSn:=And.intro HB.out.get0 HB.out.get1
      refine hKo hK (fun hHeld=>?_)
      clear hK K
      refine tkP 11 ?_;refine tkP 12 ?_;refine tkP 13 ?_
      refine rdP 15 fun K hK=>?_
      refine wantedIf (by rfl) ?_
      refine sW #[.slice A3 d3.sectors.length c3,d3.left,d3.down] HG.out ?_
      have HK:=Hq (HK.out.row HG.out (by decide) #[.slice A3 d3.sectors.length c3,d3.left,d3.down])
      have HB:=Hq (HB.out.under (M:=wf.heap.size) (by show w.heap.size+4≤_;exact hg4) (below_setRow (Below.refl wf.heap.size ww) (Nat.le_refl wf.heap.size) #[.slice A3 d3.sectors.length c3,d3.left,d3.down]))
      have HG:=Hq (show(ww.setRow wf.heap.size #[.slice A3 d3.sectors.length c3,d3.left,d3.down]).heap[wf.heap.size]? =some (.cells #[.slice A3 d3.sectors.length c3,d3.left,d3.down] 29 (0,0))from setRow_heap _ _ _ _ _ _ HG.out)
      (try clear hSn);have hSn:=And.intro HB.out.get0 HB.out.get1
      refine hKo hK (fun hHeld=>?_)
      clear hK K
      try simp only[Act.put]
      refine tkP 16 ?_
      refine wpAnyH_done Kr ?_ _
      clear hHeld hSn
      go_wp2_with fail
      go_meet
      case rel=>exact⟨_,A3,c3,rfl,rfl,HB.out,hg4,HG.out,HK.out⟩
    ·
     go_simp
     have hg4:w.heap.size+4≤w3.drew.heap.size:=HB.out.lt (i:=3) (by simp);have HK:=Hq (HK.out.below (allocB w3.drew (.cells #["s",(),false] 29)));have HB:=Hq (HB.out.step (allocB w3.drew (.cells #["s",(),false] 29)));have HG:=Hq (heap_alloc_new w3.drew (.cells #["s",(),false] 29));(try clear hSn);have hSn:=And.intro HB.out.get0 HB.out.get1
     refine hKo hK (fun hHeld=>?_)
     clear hK K
     refine rdP 4 fun K hK=>?_
     go_simp
     refine(HFI.out _).mono ?_;rintro e wf ⟨rfl,hb5⟩;have HK:=Hq (HK.out.below hb5);have HB:=Hq (HB.out.step hb5);have HG:=Hq (blkOld HG.out hb5);clear hb5;(try clear hSn);have hSn:=And.intro HB.out.get0 HB.out.get1
     refine hKo hK (fun hHeld=>?_)
     clear hK K
     refine tkP 5 ?_;refine tkP 7 ?_;refine tkP 8 ?_
     refine rdP 9 fun K hK=>?_
     go_simp
     refine(HFL.out _).mono ?_;rintro e wm ⟨rfl,hb5⟩;have HK:=Hq (HK.out.below hb5);have HB:=Hq (HB.out.step hb5);have HG:=Hq (blkOld HG.out hb5);clear hb5;(try clear hSn);have hSn:=And.intro HB.out.get0 HB.out.get1
     refine hKo hK (fun hHeld=>?_)
     clear hK K
     refine rdP 10 fun K hK=>?_
     go_simp
     refine(HWR.out _ HK.out.dk).mono ?_;rintro e ww ⟨A3,c3,rfl,hd5,ha5,hb5⟩;have HK:=Hq (HK.out.put (by have:=HB.out.lt (i:=3) (by simp);omega) hd5 ha5 hb5);have HB:=Hq (HB.out.step hb5);have HG:=Hq (blkOld HG.out hb5);clear hb5 hd5 ha5;(try clear hSn);have hSn:=And.intro HB.out.get0 HB.out.get1
     refine hKo hK (fun hHeld=>?_)
     clear hK K
     refine tkP 11 ?_;refine tkP 12 ?_;refine tkP 13 ?_
     refine rdP 15 fun K hK=>?_
     refine wantedIf (by rfl) ?_
     refine sW #[.slice A3 d3.sectors.length c3,d3.left,d3.down] HG.out ?_
     have HK:=Hq (HK.out.row HG.out (by decide) #[.slice A3 d3.sectors.length c3,d3.left,d3.down])
     have HB:=Hq (HB.out.under (M:=w3.drew.heap.size) (by show w.heap.size+4≤_;exact hg4) (below_setRow (Below.refl w3.drew.heap.size ww) (Nat.le_refl w3.drew.heap.size) #[.slice A3 d3.sectors.length c3,d3.left,d3.down]))
     have HG:=Hq (show(ww.setRow w3.drew.heap.size #[.slice A3 d3.sectors.length c3,d3.left,d3.down]).heap[w3.drew.heap.size]? =some (.cells #[.slice A3 d3.sectors.length c3,d3.left,d3.down] 29 (0,0))from setRow_heap _ _ _ _ _ _ HG.out)
     (try clear hSn);have hSn:=And.intro HB.out.get0 HB.out.get1
     refine hKo hK (fun hHeld=>?_)
     clear hK K
     try simp only[Act.put]
     refine tkP 16 ?_
     refine wpAnyH_done Kr ?_ _
     clear hHeld hSn
     go_wp2_with fail
     go_meet
     case rel=>exact⟨_,A3,c3,rfl,rfl,HB.out,hg4,HG.out,HK.out⟩
   case rest=>
    obtain⟨g,A3,c3,rfl,rfl,hb3,hg4,hg3,hk3⟩:=hcut
    obtain⟨wb,rfl⟩:=ex wc
    have HB3:=Hq hb3
    have HG3:=Hq hg3
    have HK3:=Hq hk3
    clear hb3 hg3 hk3 H1 HDK HWR hs1 hs2 hs3
    by_cases he:e3=0
    ·have HGG:=Hq (HGO.out he)
     subst he
     clear HGO HSTP
     go_wp2_with (first
      |(with_reducible refine lL HG3.out Tryz.underlying29 ?_)
      |(with_reducible refine lS #[.slice A3 d3.sectors.length c3,d3.left,d3.down] HB3.out.get0 ?_))
     go_meet
     case rel=>exact⟨rfl,d3,A3,c3,HGG.out,by have h:=HB3.out.row 0 #[.slice A3 d3.sectors.length c3,d3.left,d3.down] _ rfl;simpa using h,HK3.out.row HB3.out.get0 (by decide) _,HWL.out⟩
    ·have HFIN:=Hq (HST.out d3 e3 he (HSTP.out he))
     have he1:(e3==0)=false:=by simpa using he
     have he2:(e3 != 0)=true:=by simpa using he
     clear HGO HSTP he
     go_upto_region 7 with fail
     clear he1 he2
     have HD:=Hq HB3.out.drew
     have X0:=blkOld HG3.out (Below.refl _ wb).drew
     have Y0:=HD.out.get1
     refine rgH (S:=(fun u=>u.heap[g]? =some (.cells #[.slice A3 d3.sectors.length c3,d3.left,d3.down] 29 (0,0))∧u.heap[(w.heap.size+1)]? =some (.cells #[fr,n,en,sf,tl] 31 (0,0)))) (fun hHeld=>?_) (by first|exact hSn|exact⟨X0,Y0⟩)
     refine tkL 0 Tryz.underlying29 ?_
     refine tkL 1 Tryz.underlying31 ?_
     refine tkP 2 ?_
     refine rdP 3 fun K hK=>?_
     refine wantedIf (by rfl) ?_
     refine sW #[.slice A3 d3.sectors.length c3,d3.left,d3.down] HD.out.get2 ?_
     have HE:=Hq (HD.out.row 2 #[.slice A3 d3.sectors.length c3,d3.left,d3.down] _ rfl)
     have X1:=((heap_setRow_other _ (w.heap.size+2) #[.slice A3 d3.sectors.length c3,d3.left,d3.down] g (by omega)).trans X0)
     have Y1:=HE.out.get1
     have hSn:=And.intro X1 Y1
     refine hKo hK (fun hHeld=>?_) (by first|exact hSn|exact⟨X0,Y0⟩)
     clear hK K
     try simp only[Act.put]
     refine rdP 4 fun K hK=>?_
     refine wantedIf (by rfl) ?_
     refine sW #[fr,n,en,sf,tl] HE.out.g3 ?_
     have HG:=Hq (HE.out.row 3 #[fr,n,en,sf,tl] _ rfl)
     try clear hSn
     have hSn:=And.intro ((heap_setRow_other _ (w.heap.size+3) #[fr,n,en,sf,tl] g (by omega)).trans X1) HG.out.get1
     refine hKo hK (fun hHeld=>?_) (by first|exact hSn|exact⟨X0,Y0⟩)
     clear hK K
     try simp only[Act.put]
     refine tkP 5 ?_
     refine wpAnyH_done Kr ?_ _
     clear hHeld hSn
     go_wp2_with fail
     refine bodyPost_ret (v:=.tuple #[.agg #[.slice A3 d3.sectors.length c3,d3.left,d3.down],.agg #[fr,n,en,sf,tl],e3]) (results_cells rfl _ _ rfl rfl (load_whole HG.out.get2 Tryz.underlying29 Kr Kr) (load_whole HG.out.g3 Tryz.underlying31 Kr Kr) rfl) rfl ?_
     have k1:=HK3.out.below (Below.refl _ wb).drew
     have k2:=k1.row HD.out.get2 (by decide) #[.slice A3 d3.sectors.length c3,d3.left,d3.down]
     exact HO.out A3 c3 _ (d3,⟨fr,n,en,sf,tl⟩,e3) HFIN.out (k2.row HE.out.g3 (by decide) _) HG.out.below
  ·have hlen:=HTOP.out.2 hfit
   go_wp2_with fail
   go_meet
   case rel=>exact⟨rfl,d,A,c,by rw[hlen],H1.out,HDK.out,HLB.out⟩
 case rest=>
  obtain⟨rfl,d0,A0,c0,hput0,hbx0,hdk0,hlb0⟩:=hcut
  obtain⟨wa,rfl⟩:=ex wc
  have HPUT0:=Hq hput0
  have HBX0:=Hq hbx0
  have HDKA:=Hq hdk0
  have HLB0:=Hq hlb0
  clear hput0 hbx0 hdk0 hlb0 H1 HDK HTOP HFL
  go_wp2_with fail
  go_loopw [10] (fun i wr=>∃ (x:Int) (d2:Lg.Dk) (A2:Option Addr) (c2:Nat),i= .int .i64 x∧-1≤x∧x≤(m:Int)∧Lg.putAll (fr+F) all all.length d=Lg.putAll (fr+F) all (x+1).toNat d2∧BxL w.heap.size w [(#[.slice A2 d2.sectors.length c2,d2.left,d2.down],29),(#[fr,n,en,sf,tl],31),(#["s",(),false],29),(#[(),(),(),(),""],31)] wr∧DkR w.heap.size wr d2 A A2 c2∧(-9223372036854775808≤d2.left∧d2.left≤9223372036854775807)) (fun i _=>(intOf i+1).toNat)
  case atStart=>exact⟨(m:Int),d0,A0,c0,rfl,by omega,by omega,by rw[show((m:Int)+1).toNat=m+1 by omega];exact HPUT0.out,HBX0.out,HDKA.out,HLB0.out⟩
  case round=>
   obtain⟨x,d2,A2,c2,rfl,hx1,hx2,hput,hbx,hdk,hlb2⟩:=hrel
   have HPUT:=Hq hput
   have HBX:=Hq hbx
   have HDK:=Hq hdk
   have HLB2:=Hq hlb2
   clear hput hbx hdk hlb2 HPUT0 HBX0 HDKA HLB0
   by_cases h0:x= -1
   ·subst h0
    have HFIN:=Hq (HAL.out d2 (HPUT.out.trans rfl))
    clear hx1 hx2
    go_upto_region 17 with(first
     |(with_reducible refine lL HBX.out.get1 Tryz.underlying31 ?_)
     |(with_reducible refine sN #[fr,n,en,sf,tl] ?_))
    have HM:=Hq (heap_alloc_new wr (.cells #[fr,n,en,sf,tl] 31))
    have hgm:w.heap.size+4≤wr.heap.size:=HBX.out.lt (i:=3) (by simp)
    have HB1:=Hq (HBX.out.step (allocB wr (.cells #[fr,n,en,sf,tl] 31)))
    have HK1:=Hq (HDK.out.below (allocB wr (.cells #[fr,n,en,sf,tl] 31)))
    obtain⟨gm,hge⟩:=ex wr.heap.size
    obtain⟨W1,hW1⟩:=ex (wr.alloc (.cells #[fr,n,en,sf,tl] 31))
    rw[← hge]at HM hgm
    rw[← hW1]at HM HB1 HK1
    rw[← hW1,← hge]
    clear hge hW1 HBX HDK
    have hc1:=blkCell HB1.out.get1
    have hcm:=blkCell HM.out
    have hzm:=blkFrozen HM.out
    go_upto_region 18 with fail
    have HM2:=Hq (show(W1.setCell ⟨gm,3,none⟩ (.int .i64 en)).heap[gm]? =some (.cells #[fr,n,en,en,tl] 31 (0,0))from by have h:=blkSet 3 HM.out (.int .i64 en);simpa using h)
    have HB2:=Hq (HB1.out.under (M:=gm) (by show w.heap.size+4≤gm;exact hgm) ((Below.refl gm W1).setCell (p:=⟨gm,3,none⟩) (Nat.le_refl gm) (.int .i64 en)))
    have HK2:=Hq (HK1.out.set HM.out (by decide) 3 (.int .i64 en))
    obtain⟨W2,hW2⟩:=ex (W1.setCell ⟨gm,3,none⟩ (.int .i64 en))
    rw[← hW2]at HM2 HB2 HK2
    rw[← hW2]
    clear hW2 hc1 hcm hzm HM HB1 HK1
    have HB:=Hq HB2.out.drew
    have HK:=Hq (HK2.out.below (Below.refl _ W2).drew)
    have HG:=Hq (blkOld HM2.out (Below.refl _ W2).drew)
    clear HM2 HB2 HK2
    have hq1:=HQ1.out
    have hq2:=HQ2.out
    have hq3:=HQ3.out
    have hq4:(q:Int)≤(tl.size:Int):=by have:=HQ4.out;omega
    have hq5:(0:Int)≤(q:Int):=by omega
    refine wp_region_Z (S:=(fun u=>u.heap[w.heap.size+1]? =some (.cells #[fr,n,en,sf,tl] 31 (0,0))∧u.heap[gm]? =some (.cells #[fr,n,en,en,tl] 31 (0,0)))) 14 Kr ?_ (fun hHeld=>?_)
    ·first|exact hSn|exact⟨HB.out.get1,HG.out⟩
    refine tzP 0 [14] ?_
    refine tzP 1 [14] ?_
    refine tzL 2 [14] Tryz.underlying31 ?_
    refine tzL 4 [14] Tryz.underlying31 ?_
    refine tzP 8 [14] ?_
    refine tzP 9 [14] ?_
    refine tzP 10 [14] ?_
    refine wpAnyZ_ready (rs:=[3]) Kr (by simp) ?_
    refine AllReadyZ.cons (o:={dst:=some 88,op:=_,type:=_,pos:=_,after:=_,guard:=_}) rfl (fun K hK=>?_) ?_
    rotate_left
    ·exact AllReadyZ.nil
    go_simp
    refine(HFM.out _).mono ?_;rintro e wg ⟨rfl,hb5⟩;have HK:=Hq (HK.out.below hb5);have HB:=Hq (HB.out.step hb5);have HG:=Hq (blkOld HG.out hb5);clear hb5;(try clear hSn);have hSn:=And.intro HB.out.get1 HG.out
    refine hKo hK (fun hHeld=>?_) (by first|exact hSn|exact⟨HB.out.get1,HG.out⟩)
    clear hK K
    refine wpAnyZ_ready (rs:=[5]) Kr (by simp) ?_
    refine AllReadyZ.cons (o:={dst:=some 90,op:=_,type:=_,pos:=_,after:=_,guard:=_}) rfl (fun K hK=>?_) ?_
    rotate_left
    ·exact AllReadyZ.nil
    go_simp
    refine(HFI.out _).mono ?_;rintro e wh ⟨rfl,hb5⟩;have HK:=Hq (HK.out.below hb5);have HB:=Hq (HB.out.step hb5);have HG:=Hq (blkOld HG.out hb5);clear hb5;(try clear hSn);have hSn:=And.intro HB.out.get1 HG.out
    have hcm:=blkCell HG.out
    have hzm:=blkFrozen HG.out
    refine hKo hK (fun hHeld=>?_) (by first|exact hSn|exact⟨HB.out.get1,HG.out⟩)
    clear hK K
    refine tzP 6 [14] ?_
    refine tzP 7 [14] ?_
    refine tzP 11 [14] ?_
    refine tzP 12 [14] ?_
    refine tzP 13 [14] ?_
    refine wpAnyZ_ready (rs:=[14]) Kr (by simp) ?_
    refine AllReadyZ.last (o:={dst:=none,op:=_,type:=_,pos:=_,after:=_,guard:=_}) rfl Kr (fun K hK=>?_) ?_
    rotate_left
    ·exact AllReadyZ.nil
    go_simp
    have HG':=Hq (show(wh.setCell ⟨gm,4,none⟩ (.string (tl.extract q tl.size))).heap[gm]? =some (.cells #[fr,n,en,en,.string (tl.extract q tl.size)] 31 (0,0))from by have h:=blkSet 4 HG.out (.string (tl.extract q tl.size));simpa using h)
    have HB':=Hq (HB.out.under (M:=gm) (by show w.heap.size+4≤gm;exact hgm) ((Below.refl gm wh).setCell (p:=⟨gm,4,none⟩) (Nat.le_refl gm) (.string (tl.extract q tl.size))))
    have HK':=Hq (HK.out.set HG.out (by decide) 4 (.string (tl.extract q tl.size)))
    refine hK.out _ _ ?_
    clear hK K
    try simp only[Act.put,pS]
    refine wpAnyZ_done Kr ?_ _
    (try clear hHeld)
    clear hSn hcm hzm HG HB HK hq1 hq2 hq3 hq4 hq5
    obtain⟨W3,hW3⟩:=ex (wh.setCell ⟨gm,4,none⟩ (.string (tl.extract q tl.size)))
    rw[← hW3]at HG' HB' HK'
    rw[← hW3]
    clear hW3
    obtain⟨tl2,htl2⟩:=ex (tl.extract q tl.size)
    rw[← htl2]at HG' HTL
    clear htl2
    go_upto_region 19 with fail
    have HD:=Hq HB'.out.drew
    have X0:=HD.out.get0
    have Y0:=blkOld HG'.out (Below.refl _ W3).drew
    refine rgH (S:=(fun u=>u.heap[w.heap.size]? =some (.cells #[.slice A2 d2.sectors.length c2,d2.left,d2.down] 29 (0,0))∧u.heap[gm]? =some (.cells #[fr,n,en,en,tl2] 31 (0,0)))) (fun hHeld=>?_) (by first|exact hSn|exact⟨X0,Y0⟩)
    refine tkL 0 Tryz.underlying29 ?_
    refine tkL 1 Tryz.underlying31 ?_
    refine rdP 2 fun K hK=>?_
    refine wantedIf (by rfl) ?_
    refine sW #[.slice A2 d2.sectors.length c2,d2.left,d2.down] HD.out.get2 ?_
    have HE:=Hq (HD.out.row 2 #[.slice A2 d2.sectors.length c2,d2.left,d2.down] _ rfl)
    have X1:=HE.out.get0
    have Y1:=((heap_setRow_other _ (w.heap.size+2) #[.slice A2 d2.sectors.length c2,d2.left,d2.down] gm (by omega)).trans Y0)
    have hSn:=And.intro X1 Y1
    refine hKo hK (fun hHeld=>?_) (by first|exact hSn|exact⟨X0,Y0⟩)
    clear hK K
    try simp only[Act.put]
    refine rdP 3 fun K hK=>?_
    refine wantedIf (by rfl) ?_
    refine sW #[fr,n,en,en,tl2] HE.out.g3 ?_
    have HG:=Hq (HE.out.row 3 #[fr,n,en,en,tl2] _ rfl)
    try clear hSn
    have hSn:=And.intro HG.out.get0 ((heap_setRow_other _ (w.heap.size+3) #[fr,n,en,en,tl2] gm (by omega)).trans Y1)
    refine hKo hK (fun hHeld=>?_) (by first|exact hSn|exact⟨X0,Y0⟩)
    clear hK K
    try simp only[Act.put]
    refine tkP 4 ?_
    refine wpAnyH_done Kr ?_ _
    clear hHeld hSn
    go_wp2_with fail
    refine bodyPost_ret (v:=.tuple #[.agg #[.slice A2 d2.sectors.length c2,d2.left,d2.down],.agg #[fr,n,en,en,tl2],()]) (results_cells rfl _ _ rfl rfl (load_whole HG.out.get2 Tryz.underlying29 Kr Kr) (load_whole HG.out.g3 Tryz.underlying31 Kr Kr) rfl) rfl ?_
    have k1:=HK'.out.below (Below.refl _ W3).drew
    have k2:=k1.row HD.out.get2 (by decide) #[.slice A2 d2.sectors.length c2,d2.left,d2.down]
    exact HO.out A2 c2 _ (d2,⟨fr,n,en,en,tl2⟩,0) (HFIN.out.trans (by rw[HTL.out])) (k2.row HE.out.g3 (by decide) _) HG.out.below
   ·obtain⟨k,rfl⟩:=Int.eq_ofNat_of_zero_le (show 0≤x by omega)
    have hkm:k≤m:=by omega
    have hk0:(0:Int)≤(k:Int):=by omega
    rw[show((k:Int)+1).toNat=k+1 by omega]at HPUT
    have HPK:=Hq (fun W=>HPC.out k hkm W)
    generalize hy:all[k]?.getD ⟨#[]⟩=y at HPK
    have HWR:=Hq (fun W hW=>rwrite_any d2 HLB2.out A2 c2 (fr+F+(k:Int)) y W hW)
    have hwl2:= @Lg.writeD_left d2 (fr+F+(k:Int)) y HLB2.out
    rcases hx:Lg.writeD d2 (fr+F+(k:Int)) y with⟨d3,e3⟩
    have HGO:=Hq (fun(he:e3=0)=>Lg.putAll_go (base:=fr+F) (all:=all) (k:=k) (d:=d2) (d2:=d3) (by rw[hy,hx,he]))
    have HSTP:=Hq (fun(he:e3≠0)=>Lg.putAll_stop (base:=fr+F) (all:=all) (k:=k) (d:=d2) (d2:=d3) he (by rw[hy,hx]))
    rw[hx]at HWR hwl2
    simp only at hwl2
    have HWL:=Hq hwl2
    clear hx hwl2 h0 hy
    have hs1:IntKind.i64.wrap (fr+F)=fr+F:=IntWalk.i64_in _ (by omega)
    have hs2:IntKind.i64.wrap (fr+F+(k:Int))=fr+F+(k:Int):=IntWalk.i64_in _ (by omega)
    go_upto_region 12 with fail
    go_cut [11,12] (fun p q wc=>∃ (g:Nat) (A3:Option Addr) (c3:Nat),p= .pointer (some ⟨g,0,none⟩)∧q= .int .i64 e3∧BxL w.heap.size w [(#[.slice A2 d2.sectors.length c2,d2.left,d2.down],29),(#[fr,n,en,sf,tl],31),(#["s",(),false],29),(#[(),(),(),(),""],31)] wc∧w.heap.size+4≤g∧wc.heap[g]? =some (.cells #[.slice A3 d3.sectors.length c3,d3.left,d3.down] 29 (0,0))∧DkR w.heap.size wc d3 A A3 c3)
    case first=>
     have HB:=HBX
     have HK:=HDK
     clear HBX HDK HGO HSTP HO HST HAL HPC HFM HTL HQ1 HQ2 HQ3 HQ4 HPUT
     have HB:=Hq HB.out.drew
     have HK:=Hq (HK.out.below (Below.refl _ wr).drew)
     refine rgH (S:=(fun u=>u.heap[w.heap.size]? =some (.cells #[.slice A2 d2.sectors.length c2,d2.left,d2.down] 29 (0,0))∧u.heap[w.heap.size+1]? =some (.cells #[fr,n,en,sf,tl] 31 (0,0)))) (fun hHeld=>?_) ⟨HB.out.get0,HB.out.get1⟩
     refine tkL 0 Tryz.underlying29 ?_
     refine tkP 1 ?_;refine tkP 2 ?_
     refine tkL 3 Tryz.underlying31 ?_
     refine tkP 6 ?_;refine tkP 8 ?_;refine tkP 9 ?_;refine tkP 10 ?_
     refine wpAnyH_ready (rs:=[4,16]) Kr (by simp) ?_
     refine(AllReadyH.cons (o:={dst:=some 64,op:=_,type:=_,pos:=_,after:=_,guard:=_}) rfl (fun K hK=>?_) (AllReadyH.cons (o:={dst:=some 11,op:=_,type:=_,pos:=_,after:=_,guard:=_}) rfl (fun K hK=>?_) AllReadyH.nil))
     ·
      go_simp
      refine(HFI.out _).mono ?_;rintro e wf ⟨rfl,hb5⟩;have HK:=Hq (HK.out.below hb5);have HB:=Hq (HB.out.step hb5);clear hb5;(try clear hSn);have hSn:=And.intro HB.out.get0 HB.out.get1
      refine hKo hK (fun hHeld=>?_)
      clear hK K
      refine tkP 5 ?_;refine tkP 7 ?_
      refine wpAnyH_ready (rs:=[11,16]) Kr (by simp) ?_
      refine(AllReadyH.cons (o:={dst:=some 71,op:=_,type:=_,pos:=_,after:=_,guard:=_}) rfl (fun K hK=>?_) (AllReadyH.cons (o:={dst:=some 11,op:=_,type:=_,pos:=_,after:=_,guard:=_}) rfl (fun K hK=>?_) AllReadyH.nil))
      ·
       go_simp
       refine(HPK.out _).mono ?_;rintro e wm ⟨rfl,hb5⟩;have HK:=Hq (HK.out.below hb5);have HB:=Hq (HB.out.step hb5);clear hb5;(try clear hSn);have hSn:=And.intro HB.out.get0 HB.out.get1
       refine hKo hK (fun hHeld=>?_)
       clear hK K
       refine wpAnyH_ready (rs:=[12,16]) Kr (by simp) ?_
       refine(AllReadyH.cons (o:={dst:=some 72,op:=_,type:=_,pos:=_,after:=_,guard:=_}) rfl (fun K hK=>?_) (AllReadyH.cons (o:={dst:=some 11,op:=_,type:=_,pos:=_,after:=_,guard:=_}) rfl (fun K hK=>?_) AllReadyH.nil))
       ·
        go_simp
        refine(HWR.out _ HK.out.dk).mono ?_;rintro e ww ⟨A3,c3,rfl,hd5,ha5,hb5⟩;have HK:=Hq (HK.out.put (by have:=HB.out.lt (i:=3) (by simp);omega) hd5 ha5 hb5);have HB:=Hq (HB.out.step hb5);clear hb5 hd5 ha5;(try clear hSn);have hSn:=And.intro HB.out.get0 HB.out.get1
        refine hKo hK (fun hHeld=>?_)
        clear hK K
        refine tkP 13 ?_;refine tkP 14 ?_;refine tkP 15 ?_
        refine rdP 16 fun K hK=>?_
        go_simp
        have hg4:w.heap.size+4≤ww.heap.size:=HB.out.lt (i:=3) (by simp);have HK:=Hq (HK.out.below (allocB ww (.cells #["s",(),false] 29)));have HB:=Hq (HB.out.step (allocB ww (.cells #["s",(),false] 29)));have HG:=Hq (heap_alloc_new ww (.cells #["s",(),false] 29));(try clear hSn);have hSn:=And.intro HB.out.get0 HB.out.get1
        refine hKo hK (fun hHeld=>?_)
        clear hK K
        refine rdP 17 fun K hK=>?_
        refine wantedIf (by rfl) ?_
        refine sW #[.slice A3 d3.sectors.length c3,d3.left,d3.down] HG.out ?_
        have HK:=Hq (HK.out.row HG.out (by decide) #[.slice A3 d3.sectors.length c3,d3.left,d3.down])
        have HB:=Hq (HB.out.under (M:=ww.heap.size) (by show w.heap.size+4≤_;exact hg4) (below_setRow (Below.refl ww.heap.size (ww.alloc (.cells #["s",(),false] 29))) (Nat.le_refl ww.heap.size) #[.slice A3 d3.sectors.length c3,d3.left,d3.down]))
        have HG:=Hq (show((ww.alloc (.cells #["s",(),false] 29)).setRow ww.heap.size #[.slice A3 d3.sectors.length c3,d3.left,d3.down]).heap[ww.heap.size]? =some (.cells #[.slice A3 d3.sectors.length c3,d3.left,d3.down] 29 (0,0))from setRow_heap _ _ _ _ _ _ HG.out)
        (try clear hSn);have hSn:=And.intro HB.out.get0 HB.out.get1
        refine hKo hK (fun hHeld=>?_)
        clear hK K
        try simp only[Act.put]
        refine tkP 18 ?_
        refine wpAnyH_done Kr ?_ _
        clear hHeld hSn
        go_wp2_with fail
        go_meet
        case rel=>exact⟨_,A3,c3,rfl,rfl,HB.out,hg4,HG.out,HK.out⟩
       ·
        go_simp
        have hg4:w.heap.size+4≤wm.heap.size:=HB.out.lt (i:=3) (by simp);have HK:=Hq (HK.out.below (allocB wm (.cells #["s",(),false] 29)));have HB:=Hq (HB.out.step (allocB wm (.cells #["s",(),false] 29)));have HG:=Hq (heap_alloc_new wm (.cells #["s",(),false] 29));(try clear hSn);have hSn:=And.intro HB.out.get0 HB.out.get1
        refine hKo hK (fun hHeld=>?_)
        clear hK K
        refine rdP 12 fun K hK=>?_
        go_simp
        refine(HWR.out _ HK.out.dk).mono ?_;rintro e ww ⟨A3,c3,rfl,hd5,ha5,hb5⟩;have HK:=Hq (HK.out.put (by have:=HB.out.lt (i:=3) (by simp);omega) hd5 ha5 hb5);have HB:=Hq (HB.out.step hb5);have HG:=Hq (blkOld HG.out hb5);clear hb5 hd5 ha5;(try clear hSn);have hSn:=And.intro HB.out.get0 HB.out.get1
        refine hKo hK (fun hHeld=>?_)
        clear hK K
        refine tkP 13 ?_;refine tkP 14 ?_;refine tkP 15 ?_
        refine rdP 17 fun K hK=>?_
        refine wantedIf (by rfl) ?_
        refine sW #[.slice A3 d3.sectors.length c3,d3.left,d3.down] HG.out ?_
        have HK:=Hq (HK.out.row HG.out (by decide) #[.slice A3 d3.sectors.length c3,d3.left,d3.down])
        have HB:=Hq (HB.out.under (M:=wm.heap.size) (by show w.heap.size+4≤_;exact hg4) (below_setRow (Below.refl wm.heap.size ww) (Nat.le_refl wm.heap.size) #[.slice A3 d3.sectors.length c3,d3.left,d3.down]))
        have HG:=Hq (show(ww.setRow wm.heap.size #[.slice A3 d3.sectors.length c3,d3.left,d3.down]).heap[wm.heap.size]? =some (.cells #[.slice A3 d3.sectors.length c3,d3.left,d3.down] 29 (0,0))from setRow_heap _ _ _ _ _ _ HG.out)
        (try clear hSn);have hSn:=And.intro HB.out.get0 HB.out.get1
        refine hKo hK (fun hHeld=>?_)
        clear hK K
        try simp only[Act.put]
        refine tkP 18 ?_
        refine wpAnyH_done Kr ?_ _
        clear hHeld hSn
        go_wp2_with fail
        go_meet
        case rel=>exact⟨_,A3,c3,rfl,rfl,HB.out,hg4,HG.out,HK.out⟩
      ·
       go_simp
       have hg4:w.heap.size+4≤wf.heap.size:=HB.out.lt (i:=3) (by simp);have HK:=Hq (HK.out.below (allocB wf (.cells #["s",(),false] 29)));have HB:=Hq (HB.out.step (allocB wf (.cells #["s",(),false] 29)));have HG:=Hq (heap_alloc_new wf (.cells #["s",(),false] 29));(try clear hSn);have hSn:=And.intro HB.out.get0 HB.out.get1
       refine hKo hK (fun hHeld=>?_)
       clear hK K
       refine rdP 11 fun K hK=>?_
       go_simp
       refine(HPK.out _).mono ?_;rintro e wm ⟨rfl,hb5⟩;have HK:=Hq (HK.out.below hb5);have HB:=Hq (HB.out.step hb5);have HG:=Hq (blkOld HG.out hb5);clear hb5;(try clear hSn);have hSn:=And.intro HB.out.get0 HB.out.get1
       refine hKo hK (fun hHeld=>?_)
       clear hK K
       refine rdP 12 fun K hK=>?_
       go_simp
       refine(HWR.out _ HK.out.dk).mono ?_;rintro e ww ⟨A3,c3,rfl,hd5,ha5,hb5⟩;have HK:=Hq (HK.out.put (by have:=HB.out.lt (i:=3) (by simp);omega) hd5 ha5 hb5);have HB:=Hq (HB.out.step hb5);have HG:=Hq (blkOld HG.out hb5);clear hb5 hd5 ha5;(try clear hSn);have hSn:=And.intro HB.out.get0 HB.out.get1
       refine hKo hK (fun hHeld=>?_)
       clear hK K
       refine tkP 13 ?_;refine tkP 14 ?_;refine tkP 15 ?_
       refine rdP 17 fun K hK=>?_
       refine wantedIf (by rfl) ?_
       refine sW #[.slice A3 d3.sectors.length c3,d3.left,d3.down] HG.out ?_
       have HK:=Hq (HK.out.row HG.out (by decide) #[.slice A3 d3.sectors.length c3,d3.left,d3.down])
       have HB:=Hq (HB.out.under (M:=wf.heap.size) (by show w.heap.size+4≤_;exact hg4) (below_setRow (Below.refl wf.heap.size ww) (Nat.le_refl wf.heap.size) #[.slice A3 d3.sectors.length c3,d3.left,d3.down]))
       have HG:=Hq (show(ww.setRow wf.heap.size #[.slice A3 d3.sectors.length c3,d3.left,d3.down]).heap[wf.heap.size]? =some (.cells #[.slice A3 d3.sectors.length c3,d3.left,d3.down] 29 (0,0))from setRow_heap _ _ _ _ _ _ HG.out)
       (try clear hSn);have hSn:=And.intro HB.out.get0 HB.out.get1
       refine hKo hK (fun hHeld=>?_)
       clear hK K
       try simp only[Act.put]
       refine tkP 18 ?_
       refine wpAnyH_done Kr ?_ _
       clear hHeld hSn
       go_wp2_with fail
       go_meet
       case rel=>exact⟨_,A3,c3,rfl,rfl,HB.out,hg4,HG.out,HK.out⟩
     ·
      go_simp
      have hg4:w.heap.size+4≤wr.drew.heap.size:=HB.out.lt (i:=3) (by simp);have HK:=Hq (HK.out.below (allocB wr.drew (.cells #["s",(),false] 29)));have HB:=Hq (HB.out.step (allocB wr.drew (.cells #["s",(),false] 29)));have HG:=Hq (heap_alloc_new wr.drew (.cells #["s",(),false] 29));(try clear hSn);have hSn:=And.intro HB.out.get0 HB.out.get1
      refine hKo hK (fun hHeld=>?_)
      clear hK K
      refine rdP 4 fun K hK=>?_
      go_simp
      refine(HFI.out _).mono ?_;rintro e wf ⟨rfl,hb5⟩;have HK:=Hq (HK.out.below hb5);have HB:=Hq (HB.out.step hb5);have HG:=Hq (blkOld HG.out hb5);clear hb5;(try clear hSn);have hSn:=And.intro HB.out.get0 HB.out.get1
      refine hKo hK (fun hHeld=>?_)
      clear hK K
      refine tkP 5 ?_;refine tkP 7 ?_
      refine rdP 11 fun K hK=>?_
      go_simp
      refine(HPK.out _).mono ?_;rintro e wm ⟨rfl,hb5⟩;have HK:=Hq (HK.out.below hb5);have HB:=Hq (HB.out.step hb5);have HG:=Hq (blkOld HG.out hb5);clear hb5;(try clear hSn);have hSn:=And.intro HB.out.get0 HB.out.get1
      refine hKo hK (fun hHeld=>?_)
      clear hK K
      refine rdP 12 fun K hK=>?_
      go_simp
      refine(HWR.out _ HK.out.dk).mono ?_;rintro e ww ⟨A3,c3,rfl,hd5,ha5,hb5⟩;have HK:=Hq (HK.out.put (by have:=HB.out.lt (i:=3) (by simp);omega) hd5 ha5 hb5);have HB:=Hq (HB.out.step hb5);have HG:=Hq (blkOld HG.out hb5);clear hb5 hd5 ha5;(try clear hSn);have hSn:=And.intro HB.out.get0 HB.out.get1
      refine hKo hK (fun hHeld=>?_)
      clear hK K
      refine tkP 13 ?_;refine tkP 14 ?_;refine tkP 15 ?_
      refine rdP 17 fun K hK=>?_
      refine wantedIf (by rfl) ?_
      refine sW #[.slice A3 d3.sectors.length c3,d3.left,d3.down] HG.out ?_
      have HK:=Hq (HK.out.row HG.out (by decide) #[.slice A3 d3.sectors.length c3,d3.left,d3.down])
      have HB:=Hq (HB.out.under (M:=wr.drew.heap.size) (by show w.heap.size+4≤_;exact hg4) (below_setRow (Below.refl wr.drew.heap.size ww) (Nat.le_refl wr.drew.heap.size) #[.slice A3 d3.sectors.length c3,d3.left,d3.down]))
      have HG:=Hq (show(ww.setRow wr.drew.heap.size #[.slice A3 d3.sectors.length c3,d3.left,d3.down]).heap[wr.drew.heap.size]? =some (.cells #[.slice A3 d3.sectors.length c3,d3.left,d3.down] 29 (0,0))from setRow_heap _ _ _ _ _ _ HG.out)
      (try clear hSn);have hSn:=And.intro HB.out.get0 HB.out.get1
      refine hKo hK (fun hHeld=>?_)
      clear hK K
      try simp only[Act.put]
      refine tkP 18 ?_
      refine wpAnyH_done Kr ?_ _
      clear hHeld hSn
      go_wp2_with fail
      go_meet
      case rel=>exact⟨_,A3,c3,rfl,rfl,HB.out,hg4,HG.out,HK.out⟩
    case rest=>
     obtain⟨g,A3,c3,rfl,rfl,hb3,hg4,hg3,hk3⟩:=hcut
     obtain⟨wb,rfl⟩:=ex wc
     have HB3:=Hq hb3
     have HG3:=Hq hg3
     have HK3:=Hq hk3
     clear hb3 hg3 hk3 HBX HDK HWR hs1 hs2
     by_cases he:e3=0
     ·have HGG:=Hq (HPUT.out.trans (HGO.out he))
      subst he
      clear HGO HSTP
      go_upto_region 11 with(first
       |(with_reducible refine lL HG3.out Tryz.underlying29 ?_)
       |(with_reducible refine lS #[.slice A3 d3.sectors.length c3,d3.left,d3.down] HB3.out.get0 ?_))
      have HB4:=Hq (show BxL w.heap.size w [(#[.slice A3 d3.sectors.length c3,d3.left,d3.down],29),(#[fr,n,en,sf,tl],31),(#["s",(),false],29),(#[(),(),(),(),""],31)] (wb.setRow w.heap.size #[.slice A3 d3.sectors.length c3,d3.left,d3.down])from by have h:=HB3.out.row 0 #[.slice A3 d3.sectors.length c3,d3.left,d3.down] _ rfl;simpa using h)
      have HK4:=Hq (HK3.out.row HB3.out.get0 (by decide) #[.slice A3 d3.sectors.length c3,d3.left,d3.down])
      obtain⟨W4,hW4⟩:=ex (wb.setRow w.heap.size #[.slice A3 d3.sectors.length c3,d3.left,d3.down])
      rw[← hW4]at HB4 HK4
      rw[← hW4]
      clear hW4 HB3 HG3 HK3
      have hwk:IntKind.i64.wrap ((k:Int)-1)=(k:Int)-1:=IntWalk.i64_in _ (by omega)
      go_wp2_with fail
      go_roundw
      case rel=>exact⟨(k:Int)-1,d3,A3,c3,rfl,by omega,by omega,by rw[show((k:Int)-1+1).toNat=k by omega];exact HGG.out,HB4.out,HK4.out,HWL.out⟩
      case measure=>first|(simp[intOf];done)|(simp[intOf];omega)
     ·have HFIN:=Hq (HST.out d3 e3 he (HPUT.out.trans (HSTP.out he)))
      have he1:(e3==0)=false:=by simpa using he
      have he2:(e3 != 0)=true:=by simpa using he
      clear HGO HSTP he
      go_upto_region 14 with fail
      clear he1 he2
      have HD:=Hq HB3.out.drew
      have X0:=blkOld HG3.out (Below.refl _ wb).drew
      have Y0:=HD.out.get1
      refine rgH (S:=(fun u=>u.heap[g]? =some (.cells #[.slice A3 d3.sectors.length c3,d3.left,d3.down] 29 (0,0))∧u.heap[(w.heap.size+1)]? =some (.cells #[fr,n,en,sf,tl] 31 (0,0)))) (fun hHeld=>?_) (by first|exact hSn|exact⟨X0,Y0⟩)
      refine tkL 0 Tryz.underlying29 ?_
      refine tkL 1 Tryz.underlying31 ?_
      refine tkP 2 ?_
      refine rdP 3 fun K hK=>?_
      refine wantedIf (by rfl) ?_
      refine sW #[.slice A3 d3.sectors.length c3,d3.left,d3.down] HD.out.get2 ?_
      have HE:=Hq (HD.out.row 2 #[.slice A3 d3.sectors.length c3,d3.left,d3.down] _ rfl)
      have X1:=((heap_setRow_other _ (w.heap.size+2) #[.slice A3 d3.sectors.length c3,d3.left,d3.down] g (by omega)).trans X0)
      have Y1:=HE.out.get1
      have hSn:=And.intro X1 Y1
      refine hKo hK (fun hHeld=>?_) (by first|exact hSn|exact⟨X0,Y0⟩)
      clear hK K
      try simp only[Act.put]
      refine rdP 4 fun K hK=>?_
      refine wantedIf (by rfl) ?_
      refine sW #[fr,n,en,sf,tl] HE.out.g3 ?_
      have HG:=Hq (HE.out.row 3 #[fr,n,en,sf,tl] _ rfl)
      try clear hSn
      have hSn:=And.intro ((heap_setRow_other _ (w.heap.size+3) #[fr,n,en,sf,tl] g (by omega)).trans X1) HG.out.get1
      refine hKo hK (fun hHeld=>?_) (by first|exact hSn|exact⟨X0,Y0⟩)
      clear hK K
      try simp only[Act.put]
      refine tkP 5 ?_
      refine wpAnyH_done Kr ?_ _
      clear hHeld hSn
      go_wp2_with fail
      refine bodyPost_ret (v:=.tuple #[.agg #[.slice A3 d3.sectors.length c3,d3.left,d3.down],.agg #[fr,n,en,sf,tl],e3]) (results_cells rfl _ _ rfl rfl (load_whole HG.out.get2 Tryz.underlying29 Kr Kr) (load_whole HG.out.g3 Tryz.underlying31 Kr Kr) rfl) rfl ?_
      have k1:=HK3.out.below (Below.refl _ wb).drew
      have k2:=k1.row HD.out.get2 (by decide) #[.slice A3 d3.sectors.length c3,d3.left,d3.down]
      exact HO.out A3 c3 _ (d3,⟨fr,n,en,sf,tl⟩,e3) HFIN.out (k2.row HE.out.g3 (by decide) _) HG.out.below
theorem rforce_any (d:Lg.Dk)(hlb: -9223372036854775808≤d.left∧d.left≤9223372036854775807)(A:Option Addr)(c:Nat)(l:Lg.Lo)(hal:Lg.Al l)(he1:l.end_≤1000000000)(hn0: -1000000000≤l.n)(hn1:l.n≤1000000000)(hf0: -1000000000≤l.from_)(hf1:l.from_≤1000000000)(ht:l.tail.size≤1000000)(w:World)(h:DiskR w d A c)(hT:NewT 0 w 9 A):
 Calls Tryz.prog 34 #[diskV d A c,logV l] w (ForceOut (Lg.forceD d l) A w):=by
 obtain⟨fr,n,en,sf,tl⟩:=l
 have h0:0≤sf:=hal.s0
 have h1:sf≤en:=hal.se
 have h2:en-(tl.size:Int)=sf-sf%128:=hal.tl
 by_cases hse:sf=en
 ·subst hse
  exact rforce_none d A c fr n sf tl _ (Lg.force_same rfl) w h
 ·exact rforce_go d hlb A c fr n en sf tl (by omega) h0 he1 hn0 hn1 hf0 hf1 ht h2 w h hT
end Go.Proofs.YtilakddepaplhaaGreat
