import Derived.Test.YtilakddepaplhaaGreatHm00
import Derived.Test.YtilakddepaplhaaGreatHm20
import Derived.Test.YtilakddepaplhaaGreatHm16
import Derived.Test.YtilakddepaplhaaGreatHm21
import Derived.Test.YtilakddepaplhaaGreatHm01
import Derived.Deep.Slices
set_option maxRecDepth 100000
set_option maxHeartbeats 16000000
set_option linter.unusedSimpArgs false
namespace Go.Proofs.YtilakddepaplhaaGreat
open Go.RowKit
structure Dd where
 k:Int
 t:Int
 pg:Int
 n:Int
def ddC (d:Dd):List Value:=[.int .i64 d.k,.int .i64 d.t,.int .i64 d.pg,.int .i64 d.n]
theorem ddC_len (d:Dd):(ddC d).length=4:=rfl
structure CkR (n k:Nat) (s:Tx.St) (fs:List Fr):Prop where
 lg:LogI s
 dk:DkI s.disk
 zl:s.zlog=(n:Int)
 zp:s.zpages=4
 fr:FrI fs
 tx:s.txns.length≤2*k
 nx:0≤s.next∧s.next≤1+(k:Int)
theorem CkR.ck {n k:Nat}{s:Tx.St}{fs:List Fr}(h:CkR n k s fs)(hn:n≤60)(hk:k≤30):CkI s fs:=⟨h.lg,h.dk,by rw[h.zl];omega,h.zp,h.fr,by have:=h.tx;omega,by have:=h.nx;omega⟩
theorem CkR.deed {n k:Nat}{s s':Tx.St}{fs fs':List Fr}(h:CkR n k s fs)(hd:DoK s s')(hf:FrI fs'):CkR n (k+1) s' fs':=
 ⟨hd.lg,hd.dk,hd.zl.trans h.zl,hd.zp.trans h.zp,hf,by have:=h.tx;have:=hd.tx;omega,by have:=h.nx;have:=hd.n0;have:=hd.n1;omega⟩
theorem CkR.take {n k:Nat}{s:Tx.St}{fs:List Fr}(h:CkR n k s fs):CkR n (k+1) (takeT s fs).1 fs:=by
 have hd:=take_keep fs h.lg h.dk
 refine⟨hd.lg,hd.dk,hd.zl.trans h.zl,hd.zp.trans h.zp,h.fr,?_,?_⟩
 ·rw[hd.tx];have:=h.tx;omega
 ·rw[hd.nx];have:=h.nx;omega
theorem ckptplays_any (m:Int)(l:List Dd)(hll:l.length≤140737488355328)(hln:∀ d∈l,d.n≤9223372036854775807)(A:Option Addr)(c:Nat)(w:World)(hr:Reads w A c l.length (l.flatMap ddC)):
 Calls Tryz.prog 3 #[m,.slice A l.length c] w fun e w'=>e= .returned (.bool true)∧Below w.heap.size w w':=by
 have HFW:=Hq (fun W=>cpfew_any m A l.length c W)
 have HAW:=Hq (fun W=>cawake_any W)
 have HR:=Hq hr
 have HLN:=Hq hln
 clear hr hln
 by_cases hfew:0≤m∧m≤60∧l.length≤30
 ·rw[decide_eq_true hfew]at HFW
  obtain⟨hm0,hm1,hl30⟩:=hfew
  obtain⟨n,rfl⟩:=Int.eq_ofNat_of_zero_le hm0
  have hn60:n≤60:=by omega
  have HFS:=Hq (fun W=>cpfresh_any n hn60 W)
  have HK0:=Hq (show CkR n 0 (freshT n) freshF from⟨fresh_log n hn60,fresh_disk n,rfl,rfl,fresh_frames,Nat.zero_le _,by show(0:Int)≤1∧(1:Int)≤1+((0:Nat):Int);omega⟩)
  generalize freshT n=s0 at HFS HK0
  generalize freshF=f0 at HFS HK0
  clear hm0 hm1
  go_enter Tryz.func3,Tryz.ntmps3
  go_upto_region 4 with(first
   |(go_at_call 6;(refine(HFW.out _).mono ?_);rintro e w1 ⟨rfl,hb1⟩)
   |(go_at_call 8;(refine(HFS.out _).mono ?_);rintro e w2 ⟨q,rfl,hpq,hb2⟩)
   |(with_reducible refine wpList_store_new rfl 37 (.tmp 5) (.tmp 17) rfl (stA s0 q) _ _ rfl Kr Kr Kr Kr ?_))
  have hba:=allocB w2 (.cells (stA s0 q) 37)
  have HG0:=Hq (heap_alloc_new w2 (.cells (stA s0 q) 37))
  have HP0:=Hq (hpq.below hba)
  have hb12:=joinB hb1 hb2
  have HB0:=Hq (hb12.trans (hba.mono hb12.size))
  have hgw:w.heap.size≤w2.heap.size:=hb12.size
  obtain⟨g,hg⟩:∃ g,g=w2.heap.size:=⟨_,rfl⟩
  obtain⟨W1,hW1⟩:∃ W,W=w2.alloc (.cells (stA s0 q) 37):=⟨_,rfl⟩
  rw[← hg,← hW1]at HG0
  rw[← hW1]at HP0 HB0
  rw[← hW1,← hg]
  rw[← hg]at hgw
  clear hW1 hg hba hb12 hb1 hb2 hpq HFW HFS
  try simp only[Act.put]
  go_wp2_with fail
  go_loopw [6] (fun i wr=>∃ (k:Nat) (s:Tx.St) (p:SP) (fs:List Fr),k≤l.length∧i= .int .i64 (k:Int)∧wr.heap[g]? =some (.cells (stA s p) 37 (0,0))∧PoolR wr s p fs∧CkR n k s fs∧Below w.heap.size w wr) (fun i _=>l.length-(intOf i).toNat)
  case atStart=>exact⟨0,s0,q,f0,Nat.zero_le _,rfl,HG0.out,HP0.out,HK0.out,HB0.out⟩
  case round=>
   clear HG0 HP0 HK0 HB0
   obtain⟨k,s,p,fs,hk,rfl,hgc,hp,hck,hbw⟩:=hrel
   have HG:=Hq hgc
   have HP:=Hq hp
   have HCK:=Hq hck
   have HBW:=Hq hbw
   clear hgc hp hck hbw
   have hk0:(0:Int)≤(k:Int):=by omega
   by_cases hlt:k<l.length
   ·have hki:(k:Int)<(l.length:Int):=by omega
    have hwk:IntKind.i64.wrap ((k:Int)+1)=(k:Int)+1:=IntWalk.i64_in _ (by omega)
    obtain⟨b,off,rfl,hca,hbl,hcell⟩:=read_at ddC_len (HR.out.below HBW.out) hlt
    have hdn:=HLN.out l[k] (List.getElem_mem hlt)
    generalize l[k]=d at hcell hdn
    obtain⟨dk,dt,dp,dn⟩:=d
    simp only at hdn
    have hd0:=hcell 0 _ rfl
    simp only[Nat.add_zero]at hd0
    by_cases h2:dk=2
    ·have h2b:(dk != 2)=false:=by rw[h2];rfl
     have HCT:=Hq (ctake_any s p fs HCK.out.lg HCK.out.dk HCK.out.fr (by have:=HCK.out.tx;omega) wr HP.out)
     have HRT:=Hq (fun W (hb:Below wr.heap.size wr W)=>rtake_any s p fs HCK.out.lg HCK.out.dk HCK.out.fr (by have:=HCK.out.tx;omega) W (HP.out.below hb))
     have HCK2:=Hq HCK.out.take
     have hfl:fs.length≤100:=by have:=HCK.out.fr.n4;omega
     generalize takeT s fs=x at HCT HRT HCK2
     obtain⟨s2,e2⟩:=x
     dsimp only at HCK2
     have htx2:s2.txns.length≤800000:=by have:=HCK2.out.tx;omega
     have HSM:=Hq (fun p q W (h1:PoolR W s2 p fs) (h2:PoolR W s2 q fs)=>rsamef_any s2 p q fs hfl htx2 W h1 h2)
     clear hcell hca hbl htx2
     go_upto_region 11 with(first
      |(with_reducible refine listLoad Kr 37 (.tmp 5) rfl g rfl (stA s p) _ HG.out _ Tryz.underlying37 Kr Kr ?_)
      |(go_at_call 10;(refine HCT.out.mono ?_);rintro e w3 ⟨q1,rfl,hp1,hb3⟩;have hba3:=allocB w3 (.cells (stA s2 q1) 37);have HG4:=Hq (heap_alloc_new w3 (.cells (stA s2 q1) 37));have HP4:=Hq (hp1.below hba3);have HB4:=Hq (hb3.trans (hba3.mono hb3.size));have HGB:=Hq (blkOld HG.out HB4.out);clear hba3 hb3 hp1)
      |(with_reducible refine wpList_store_new rfl 37 (.tmp 7) (.tmp 39) rfl (stA s2 q1) _ _ rfl Kr Kr Kr Kr ?_)
      |(with_reducible refine listLoad Kr 37 (.tmp 5) rfl g rfl (stA s p) _ HGB.out _ Tryz.underlying37 Kr Kr ?_)
      |(go_at_call 11;(refine(HRT.out _ HB4.out).mono ?_);rintro e w5 ⟨q2,rfl,hp2,hb5⟩)
      |(with_reducible refine wpList_store_new rfl 37 (.tmp 9) (.tmp 44) rfl (stA s2 q2) _ _ rfl Kr Kr Kr Kr ?_))
     have hba5:=allocB w5 (.cells (stA s2 q2) 37)
     have hb6:=hb5.trans (hba5.mono hb5.size)
     have HG7:=Hq (blkOld HG4.out hb6)
     have HP7:=Hq (HP4.out.below hb6)
     have HG9:=Hq (heap_alloc_new w5 (.cells (stA s2 q2) 37))
     have HP9:=Hq (hp2.below hba5)
     have HGC:=Hq (blkOld HGB.out hb6)
     have HB6:=Hq (HBW.out.trans ((joinB HB4.out hb6).mono HBW.out.size))
     obtain⟨g7,hg7⟩:∃ g,g=w3.heap.size:=⟨_,rfl⟩
     obtain⟨g9,hg9⟩:∃ g,g=w5.heap.size:=⟨_,rfl⟩
     obtain⟨w6,hw6⟩:∃ W,W=w5.alloc (.cells (stA s2 q2) 37):=⟨_,rfl⟩
     rw[← hw6]at HG7 HP7 HG9 HP9 HGC HB6
     rw[← hg7]at HG7
     rw[← hg9]at HG9
     rw[← hw6,← hg9]
     try rw[← hg7]
     clear hw6 hg7 hg9 hba5 hb5 hb6 hp2 HG4 HP4 HB4 HGB HCT HRT HG HP HCK hd0
     try simp only[Act.put]
     have hee:(e2 != e2)=false:=bne_self_eq_false _
     have hmm:(Ck.masterD s2.disk != Ck.masterD s2.disk)=false:=bne_self_eq_false _
     have hSn:Below w6.heap.size w6 w6.drew:=(Below.refl _ w6).drew
     refine wp_region_held_drew (S:=(fun u=>Below w6.heap.size w6 u)) Kr ?_ (fun hHeld=>?_)
     ·exact hSn
     generalize w6.drew=w9 at hSn ⊢
     refine tkW 0 (some 46) (v:=?_) rfl ?_ ?_
     rotate_left
     ·intro u hSu;clear hSu;go_simp;(try with_reducible rfl)
     try simp only[Act.put,pS]
     refine tkW 1 (some 47) (v:=?_) rfl ?_ ?_
     rotate_left
     ·intro u hSu;clear hSu;go_simp;(try with_reducible rfl)
     try simp only[Act.put,pS]
     refine tkW 2 (some 48) (v:=?_) rfl ?_ ?_
     rotate_left
     ·intro u hSu;clear hSu;go_simp;(try with_reducible rfl)
     try simp only[Act.put,pS]
     refine tkW 3 (some 49) (v:=?_) rfl ?_ ?_
     rotate_left
     ·intro u hSu;clear hSu;go_simp;(try with_reducible rfl)
     try simp only[Act.put,pS]
     refine tkV 4 (some 50) (v:=.agg (stA s2 q1)) rfl (yieldsIf_load_mid (by rfl) 37 (.tmp 7) rfl g7 0 (by rfl) (stA s2 q1).toList _ (fun u hu=>(by intro j v hj;rw[Nat.zero_add,blkCell (blkOld HG7.out hu)];simpa using hj)) Tryz.underlying37 Kr Kr) ?_
     try simp only[Act.put,pS]
     refine tkV 5 (some 51) (v:=.agg (stA s2 q2)) rfl (yieldsIf_load_mid (by rfl) 37 (.tmp 9) rfl g9 0 (by rfl) (stA s2 q2).toList _ (fun u hu=>(by intro j v hj;rw[Nat.zero_add,blkCell (blkOld HG9.out hu)];simpa using hj)) Tryz.underlying37 Kr Kr) ?_
     try simp only[Act.put,pS]
     refine rdH 6 (some 52) rfl (fun K hK=>?_)
     go_simp
     (refine(HSM.out q1 q2 _ (HP7.out.below hSn) (HP9.out.below hSn)).mono ?_);rintro e u1 ⟨rfl,hb1⟩;have hSm:=joinB hSn hb1;clear hSn;have hSn:=hSm;clear hSm
     refine hK.out _ _ ?_ (fun hHeld=>?_)
     ·exact hSn
     clear hK K
     try simp only[Act.put,pS]
     refine tkW 7 (some 53) (v:=?_) rfl ?_ ?_
     rotate_left
     ·intro u hSu;clear hSu;go_simp;(try with_reducible rfl)
     try simp only[Act.put,pS]
     refine tkW 8 (some 54) (v:=?_) rfl ?_ ?_
     rotate_left
     ·intro u hSu;clear hSu;go_simp;(try with_reducible rfl)
     try simp only[Act.put,pS]
     refine tkW 9 (some 55) (v:=?_) rfl ?_ ?_
     rotate_left
     ·intro u hSu;clear hSu;go_simp;(try with_reducible rfl)
     try simp only[Act.put,pS]
     refine tkW 10 (some 56) (v:=?_) rfl ?_ ?_
     rotate_left
     ·intro u hSu;clear hSu;go_simp;(try with_reducible rfl)
     try simp only[Act.put,pS]
     refine tkV 11 (some 57) (v:=.agg #[.slice q1.A s2.disk.sectors.length q1.c,s2.disk.left,s2.disk.down]) rfl (yieldsIf_load_mid (by rfl) 29 (.tmp 56) rfl g7 3 (by rfl) [.slice q1.A s2.disk.sectors.length q1.c,.int .i64 s2.disk.left,.bool s2.disk.down] _ (fun u hu j v hj=>by rw[blkCell (blkOld HG7.out hu)];rcases j with _|_|_|j<;>simp at hj ⊢<;>exact hj) Tryz.underlying29 Kr Kr) ?_
     try simp only[Act.put,pS]
     refine tkW 13 (some 59) (v:=?_) rfl ?_ ?_
     rotate_left
     ·intro u hSu;clear hSu;go_simp;(try with_reducible rfl)
     try simp only[Act.put,pS]
     refine tkV 14 (some 60) (v:=.agg #[.slice q2.A s2.disk.sectors.length q2.c,s2.disk.left,s2.disk.down]) rfl (yieldsIf_load_mid (by rfl) 29 (.tmp 59) rfl g9 3 (by rfl) [.slice q2.A s2.disk.sectors.length q2.c,.int .i64 s2.disk.left,.bool s2.disk.down] _ (fun u hu j v hj=>by rw[blkCell (blkOld HG9.out hu)];rcases j with _|_|_|j<;>simp at hj ⊢<;>exact hj) Tryz.underlying29 Kr Kr) ?_
     try simp only[Act.put,pS]
     refine rdH 12 (some 58) rfl (fun K hK=>?_)
     go_simp
     (refine(cmaster_any s2.disk q1.A q1.c _ (HP7.out.below hSn).st.dk).mono ?_);rintro e u2 ⟨rfl,hb2⟩;have hSm:=joinB hSn hb2;clear hSn;have hSn:=hSm;clear hSm
     refine hK.out _ _ ?_ (fun hHeld=>?_)
     ·exact hSn
     clear hK K
     try simp only[Act.put,pS]
     refine rdH 15 (some 61) rfl (fun K hK=>?_)
     go_simp
     (refine(rmaster_any s2.disk q2.A q2.c _ (HP9.out.below hSn).st.dk).mono ?_);rintro e u3 ⟨rfl,hb3⟩;have hSm:=joinB hSn hb3;clear hSn;have hSn:=hSm;clear hSm
     refine hK.out _ _ ?_ (fun hHeld=>?_)
     ·exact hSn
     clear hK K
     try simp only[Act.put,pS]
     refine tkW 16 (some 62) (v:=?_) rfl ?_ ?_
     rotate_left
     ·intro u hSu;clear hSu;go_simp;(try with_reducible rfl)
     try simp only[Act.put,pS]
     refine tkW 17 (some 63) (v:=?_) rfl ?_ ?_
     rotate_left
     ·intro u hSu;clear hSu;go_simp;(try with_reducible rfl)
     try simp only[Act.put,pS]
     refine wpAnyH_done Kr ?_ _
     clear hHeld
     have HGD:=Hq (blkOld HGC.out hSn)
     have HGE:=Hq (blkOld HG9.out hSn)
     have HPE:=Hq (HP9.out.below hSn)
     have HBE:=Hq (HB6.out.trans (hSn.mono HB6.out.size))
     go_wp2_with (first
      |(with_reducible refine listLoad Kr 37 (.tmp 9) rfl g9 rfl (stA s2 q2) _ HGE.out _ Tryz.underlying37 Kr Kr ?_)
      |(with_reducible refine listStore Kr 37 (.tmp 5) (.tmp 64) rfl g (stA s2 q2) _ _ rfl rfl HGD.out Kr Kr Kr ?_))
     go_roundw
     case rel=>exact⟨k+1,s2,q2,fs,by omega,by go_num,setRow_heap _ _ _ (stA s2 q2) _ _ HGD.out,HPE.out.other (t:=37) HGD.out (by decide) (by decide) (by decide) _,HCK2.out,rowB hgw HBE.out _⟩
     case measure=>simp[intOf];omega
    ·have h2b:(dk != 2)=true:=bne_iff_ne.2 h2
     have HDO:=Hq (fun W (hb:Below wr.heap.size wr W)=>cpdo_any s p fs (HCK.out.ck hn60 (by omega)) dk dt dp dn hdn W (HP.out.below hb))
     have HDR:=Hq (show ∀ u,Below wr.heap.size wr u→u.rangeAt b (off+k*4) [.int .i64 dk,.int .i64 dt,.int .i64 dp,.int .i64 dn]from fun u hu i v hv=>by rw[hu.cell (p:=⟨b,off+k*4+i,none⟩) hbl];exact hcell i v hv)
     clear hcell hca hbl
     go_upto_region 8 with fail
     have hSn:Below wr.heap.size wr wr.drew:=(Below.refl _ wr).drew
     refine wp_region_Z (S:=(fun u=>Below wr.heap.size wr u)) 6 Kr ?_ (fun hHeld=>?_)
     ·exact hSn
     generalize wr.drew=w9 at hSn ⊢
     refine wpAnyZ_take (i:=0) (oi:={dst:=some 30,op:=_,type:=_,pos:=_,after:=_,guard:=_}) (v:=.agg (stA s p)) (p:=[6]) rfl Kr Kr Kr Kr Kr Kr (fun _ _ _ h=>h) (yieldsIf_load_mid (by rfl) 37 (.tmp 5) rfl g 0 (by rfl) (stA s p).toList _ (fun u hu=>(by intro j v hj;rw[Nat.zero_add,blkCell (blkOld HG.out hu)];simpa using hj)) Tryz.underlying37 Kr Kr) (by assumption) ?_
     try simp only[Act.put,pS]
     refine wpAnyZ_take (i:=1) (oi:={dst:=some 31,op:=_,type:=_,pos:=_,after:=_,guard:=_}) (v:=?_) (p:=[6]) rfl Kr Kr Kr Kr Kr Kr (fun _ _ _ h=>h) (Or.inl ⟨by rfl,?_⟩) (by assumption) ?_
     rotate_left
     ·intro u hSu;clear hSu;go_simp;(try with_reducible rfl)
     try simp only[Act.put,pS]
     refine wpAnyZ_take (i:=2) (oi:={dst:=some 32,op:=_,type:=_,pos:=_,after:=_,guard:=_}) (v:=?_) (p:=[6]) rfl Kr Kr Kr Kr Kr Kr (fun _ _ _ h=>h) (Or.inl ⟨by rfl,?_⟩) (by assumption) ?_
     rotate_left
     ·intro u hSu;clear hSu;go_simp;(try with_reducible rfl)
     try simp only[Act.put,pS]
     refine wpAnyZ_take (i:=3) (oi:={dst:=some 33,op:=_,type:=_,pos:=_,after:=_,guard:=_}) (v:=?_) (p:=[6]) rfl Kr Kr Kr Kr Kr Kr (fun _ _ _ h=>h) (Or.inl ⟨by rfl,?_⟩) (by assumption) ?_
     rotate_left
     ·intro u hSu;clear hSu;go_simp;(try with_reducible rfl)
     try simp only[Act.put,pS]
     refine wpAnyZ_take (i:=4) (oi:={dst:=some 34,op:=_,type:=_,pos:=_,after:=_,guard:=_}) (v:=.agg #[dk,dt,dp,dn]) (p:=[6]) rfl Kr Kr Kr Kr Kr Kr (fun _ _ _ h=>h) (yieldsIf_load_mid (by rfl) 40 (.tmp 33) rfl b (off+k*4) (by rfl) [.int .i64 dk,.int .i64 dt,.int .i64 dp,.int .i64 dn] _ HDR.out Tryz.underlying40 Kr Kr) (by assumption) ?_
     try simp only[Act.put,pS]
     refine wpAnyZ_ready (rs:=[5]) Kr (by simp) ?_
     refine AllReadyZ.cons (o:={dst:=some 35,op:=_,type:=_,pos:=_,after:=_,guard:=_}) rfl (fun K hK=>?_) ?_
     rotate_left
     ·exact AllReadyZ.nil
     go_simp
     (refine(HDO.out _ hSn).mono ?_);rintro e u1 ⟨s3,q3,fs3,rfl,hp3,hf3,hdk3,hb1⟩;have hSm:=joinB hSn hb1;clear hSn;have hSn:=hSm;clear hSm;have HGU:=blkOld HG.out hSn
     refine hK.out _ _ ?_ (fun hHeld=>?_)
     ·exact hSn
     clear hK K
     try simp only[Act.put,pS]
     refine wpAnyZ_ready (rs:=[6]) Kr (by simp) ?_
     refine AllReadyZ.last (o:={dst:=none,op:=_,type:=_,pos:=_,after:=_,guard:=_}) rfl Kr (fun K hK=>?_) ?_
     rotate_left
     ·exact AllReadyZ.nil
     refine wantedIf (by rfl) ?_
     refine wp_store_whole 37 (.tmp 5) (.tmp 35) rfl g (stA s3 q3) _ _ rfl rfl HGU Kr Kr Kr ?_
     have HS3:=setRow_heap _ _ _ (stA s3 q3) _ _ HGU
     have HP3:=hp3.other (t:=37) HGU (by decide) (by decide) (by decide) (stA s3 q3)
     have HB3:=rowB hgw (HBW.out.trans (hSn.mono HBW.out.size)) (stA s3 q3)
     refine hK.out _ _ ?_
     clear hK K
     try simp only[Act.put]
     refine wpAnyZ_done Kr ?_ _
     clear hHeld
     go_wp2_with fail
     go_roundw
     case rel=>exact⟨k+1,s3,q3,fs3,by omega,by go_num,HS3,HP3,HCK.out.deed hdk3 hf3,HB3⟩
     case measure=>simp[intOf];omega
   ·obtain rfl:k=l.length:=by omega
    go_wp2_with (go_at_call 7;(refine(HAW.out _).mono ?_);rintro e w9 ⟨rfl,hb9⟩)
    go_ret
    exact⟨by simp,joinB HBW.out hb9⟩
 ·rw[decide_eq_false hfew]at HFW
  go_enter Tryz.func3,Tryz.ntmps3
  go_wp2_with (first
   |(go_at_call 6;(refine(HFW.out _).mono ?_);rintro e w1 ⟨rfl,hb1⟩)
   |(go_at_call 7;(refine(HAW.out _).mono ?_);rintro e w2 ⟨rfl,hb2⟩))
  go_ret
  exact⟨by simp,joinB hb1 hb2⟩
open Go.ChangeShapes Go.WideShapes Go.ChangeAt
theorem cellsI:Tryz.prog.cellsOf 3=1:=by kernel_rfl
theorem cellsDd:Tryz.prog.cellsOf 40=4:=by kernel_rfl
theorem bytesDd:1≤Tryz.prog.bytesOf 40:=by decide+kernel
theorem ddFields:∃ f0 f1 f2 f3:Field,Tryz.prog.underlying 40=some (.struct #[f0,f1,f2,f3])∧(f0.offset=0∧f1.offset=1∧f2.offset=2∧f3.offset=3)∧f0.type=3∧f1.type=3∧f2.type=3∧f3.type=3:=⟨_,_,_,_,Tryz.underlying40,⟨rfl,rfl,rfl,rfl⟩,rfl,rfl,rfl,rfl⟩
instance:Inhabited Dd:=⟨⟨0,0,0,0⟩⟩
theorem list4' {α:Type}{l:List α}(h:l.length=4):∃ a b c d,l=[a,b,c,d]:=by
 match l,h with
 |[a,b,c,d],_=>exact⟨a,b,c,d,rfl⟩
theorem spotOf {w:World}{a:Addr}{v:Value}(h:w.cell? a=some v):a=⟨a.block,a.off,none⟩∧a.block<w.heap.size:=by
 obtain⟨b,off,sp⟩:=a
 unfold World.cell? at h
 cases hh:w.heap[b]? with
 |none=>simp[hh]at h
 |some o=>
  have hlt:b<w.heap.size:=(Array.getElem?_eq_some_iff.1 hh).1
  cases o with
  |cells c t f=>
   simp only[hh]at h
   cases sp with
   |none=>exact⟨rfl,hlt⟩
   |some x=>simp at h
  |_=>simp[hh]at h
def Light {H:Type}(t:TypeId)(d:DataW H):Prop:=∀ n∈DataW.weights Tryz.prog t d,n≤reachBytes
theorem light_of {H:Type}{ts:List TypeId}{ds:List (DataW H)}{j:Nat}{t:TypeId}{d:DataW H}(h:(DataW.weightsEach Tryz.prog ts ds).all (·≤reachBytes)=true)(ht:ts[j]? =some t)(hd:ds[j]? =some d):Light t d:=fun n hn=>by
 have:=List.all_eq_true.1 h _ (DataW.weights_mem_each ht hd n hn)
 simpa using this
theorem weights_mem_all {H:Type}{P:Program}{e:TypeId}{d:DataW H}{n:Nat}(hn:n∈DataW.weights P e d):∀ {l:List (DataW H)},d∈l→n∈DataW.weightsAll P e l:=by
 intro l
 induction l with
 |nil=>intro h;cases h
 |cons a l ih=>
  intro h
  unfold DataW.weightsAll
  rcases List.mem_cons.1 h with h1|h1
  ·subst h1;exact List.mem_append_left _ hn
  ·exact List.mem_append_right _ (ih h1)
section
variable {H : Type} {enc : TypeId × Value → H} {w : World} {base : Nat} {spare : Nat → Bool} {held : Bool}
theorem trod_field {t:TypeId}{fs:Array Field}{fuel:Nat}{cs:List Value}{x:DataW H×List MemPlace}(ht:Tryz.prog.underlying t=some (.struct fs))(h:DataW.trod enc Tryz.prog w base spare held fuel t cs=some x):
 ∃ n,cs.length=Tryz.prog.cellsOf t∧∀ (i:Nat) (f:Field),fs[i]? =some f→∃ y,DataW.trod enc Tryz.prog w base spare held n f.type ((cs.drop f.offset).take (Tryz.prog.cellsOf f.type))=some y∧(Light t x.1→Light f.type y.1):=by
 obtain⟨xs,n,_,rfl,hl,hlen,hf⟩:=DataW.trod_struct ht h
 refine⟨n,hl,fun i f hi=>?_⟩
 have hi':i<xs.length:=by rw[hlen];exact(Array.getElem?_eq_some_iff.1 hi).1
 refine⟨xs[i],by rw[hf i f hi,List.getElem?_eq_getElem hi'],fun hL m hm=>hL m ?_⟩
 unfold DataW.weights
 rw[ht]
 exact DataW.weights_mem_each (j:=i) (t:=f.type) (d:=xs[i].1) (by simp[hi]) (by simp[hi']) m hm
theorem trod_row {α:Type}[Inhabited α]{en:α→List Value}{k:Nat}(hk:∀ x,(en x).length=k)(hk0:0<k){t e:TypeId}(ht:Tryz.prog.underlying t=some (.slice e))(hce:Tryz.prog.cellsOf e=k)(hbe:1≤Tryz.prog.bytesOf e){Q:α→Prop}
 (he:∀ (fuel:Nat) (cs:List Value) (x:DataW H×List MemPlace),DataW.trod enc Tryz.prog w base spare held fuel e cs=some x→Light e x.1→∃ o,cs=en o∧Q o)
 {fuel:Nat} {cs:List Value} {x:DataW H×List MemPlace} (hL:Light t x.1) (h:DataW.trod enc Tryz.prog w base spare held fuel t cs=some x):
 ∃ (A:Option Addr) (c:Nat) (l:List α),cs=[.slice A l.length c]∧Reads w A c l.length (l.flatMap en)∧(∀ o∈l,Q o)∧l.length≤140737488355328:=by
 rcases Deep.open_slice ht h with⟨hcs,_⟩|⟨a',len',cap',m,n,D,Pl,hcs,hb,hl,hm,hmm,hx,hall⟩
 ·exact⟨none,0,[],hcs,Reads.none_ _ _ _ _,(fun _ h=>by cases h),Nat.zero_le _⟩
 ·have hlm:len'≤m:=by rw[hmm];split<;>omega
  rw[hce]at hall
  rw[hx]at hL
  have hlen:len'≤140737488355328:=by
   have h1:=hL _ (by unfold DataW.weights;rw[ht];exact List.mem_cons_self ..)
   rw[List.length_map,List.length_range]at h1
   have h2:=reachBytes_lt
   have h3:=Nat.le_mul_of_pos_right (len'+(List.map (fun j=>D (len'+j)) (List.range (m-len'))).length) hbe
   omega
  have hLe:∀ i,i<len'→Light e (D i):=fun i hi n' hn'=>hL n' (by
   unfold DataW.weights;rw[ht]
   exact List.mem_cons_of_mem _ (List.mem_append_left _ (weights_mem_all hn' (List.mem_map.2 ⟨i,List.mem_range.2 hi,rfl⟩))))
  obtain⟨f,hf⟩:=Deep.choose_lt (α:=α) (n:=len') (p:=fun i o=>(∀ q u,(en o)[q]? =some u→w.cell? ((a'.add (i*k)).add q)=some u)∧Q o) (fun i hi=>by
   obtain⟨cs',h1,h2⟩:=hall i (by omega)
   obtain⟨o,rfl,hQ⟩:=he _ _ _ h2 (hLe i hi)
   obtain⟨_,_,h3⟩:=World.cells?_some h1
   refine⟨o,fun q u hq=>?_,hQ⟩
   have hqk:q<k:=by have:=(List.getElem?_eq_some_iff.1 hq).1;rw[hk]at this;exact this
   rw[h3 q hqk];exact hq)
  refine⟨some a',cap',(List.range len').map f,by rw[hcs];simp,?_,?_,by simpa using hlen⟩
  ·intro h0
   have h0':0<len':=by simpa using h0
   obtain⟨u,hu⟩:∃ u,(en (f 0))[0]? =some u:=⟨_,List.getElem?_eq_getElem (by rw[hk];exact hk0)⟩
   have hz:=(hf 0 h0').1 0 u hu
   have hz2:w.cell? a'=some u:=by simpa[Addr.add]using hz
   obtain⟨hsp,hlt⟩:=spotOf hz2
   refine⟨a'.block,a'.off,by rw[← hsp],by simpa using hl,hlt,fun j u hj=>?_⟩
   have hjl:j<len'*k:=by
    have:=(List.getElem?_eq_some_iff.1 hj).1
    rw[flat_len hk]at this
    simpa using this
   obtain⟨q,i,hi,rfl⟩:∃ q i,i<k∧j=q*k+i:=⟨j/k,j%k,Nat.mod_lt _ hk0,by rw[Nat.mul_comm];exact(Nat.div_add_mod j k).symm⟩
   have hq:q<len':=by
    rcases Nat.lt_or_ge q len' with h5|h5
    ·exact h5
    ·have:=Nat.mul_le_mul_right k h5;omega
   rw[flat_at hk _ q i (by simpa using hq) hi]at hj
   have h5:=(hf q hq).1 i u (by simpa using hj)
   rw[hsp,Addr.add_mid,Addr.add_mid]at h5
   rw[← Nat.add_assoc]
   exact h5
  ·intro o ho
   obtain⟨i,hi,rfl⟩:=List.mem_map.1 ho
   exact(hf i (List.mem_range.1 hi)).2
theorem trod_dd (fuel:Nat)(cs:List Value)(x:DataW H×List MemPlace)(h:DataW.trod enc Tryz.prog w base spare held fuel 40 cs=some x)(_:Light 40 x.1):∃ o:Dd,cs=ddC o∧o.n≤9223372036854775807:=by
 obtain⟨f0,f1,f2,f3,hu,⟨o0,o1,o2,o3⟩,t0,t1,t2,t3⟩:=ddFields
 obtain⟨n,hl,hf⟩:=trod_field hu h
 rw[cellsDd]at hl
 obtain⟨c0,c1,c2,c3,rfl⟩:=list4' hl
 obtain⟨y0,h0,gh0⟩:=hf 0 f0 rfl
 rw[o0,t0,cellsI]at h0
 obtain⟨y1,h1,gh1⟩:=hf 1 f1 rfl
 rw[o1,t1,cellsI]at h1
 obtain⟨y2,h2,gh2⟩:=hf 2 f2 rfl
 rw[o2,t2,cellsI]at h2
 obtain⟨y3,h3,gh3⟩:=hf 3 f3 rfl
 rw[o3,t3,cellsI]at h3
 obtain⟨i0,e0,_,_⟩:=DataW.trod_int Tryz.underlying3 h0
 obtain⟨i1,e1,_,_⟩:=DataW.trod_int Tryz.underlying3 h1
 obtain⟨i2,e2,_,_⟩:=DataW.trod_int Tryz.underlying3 h2
 obtain⟨i3,e3,_,w3⟩:=DataW.trod_int Tryz.underlying3 h3
 simp at e0 e1 e2 e3
 exact⟨⟨i0,i1,i2,i3⟩,by rw[e0,e1,e2,e3];rfl,(bnd w3).2⟩
theorem open_dds {r:Reach}{b0:Nat}{v:Value}{d:DataW H}{ps:List MemPlace}(hval:Value.okWide Tryz.prog w r b0 22 v)(hd:DataW.Trod enc Tryz.prog w base spare held 22 v d ps)(hL:Light 22 d):
 ∃ (A:Option Addr) (c:Nat) (l:List Dd),v= .slice A l.length c∧Reads w A c l.length (l.flatMap ddC)∧(∀ d∈l,d.n≤9223372036854775807)∧l.length≤140737488355328:=by
 obtain⟨a,len,cap,rfl⟩:=okWide_slice Tryz.underlying22 hval
 obtain⟨fuel,hf⟩:=hd
 obtain⟨A,c,l,h1,h2,h3,h4⟩:=trod_row (en:=ddC) (k:=4) ddC_len (by omega) Tryz.underlying22 cellsDd bytesDd (Q:=fun d=>d.n≤9223372036854775807) trod_dd hL hf
 exact⟨A,c,l,by simpa[Value.cells]using h1,h2,h3,h4⟩
end
end Go.Proofs.YtilakddepaplhaaGreat
