import Derived.Test.YtilakddepaplhaaGreatHm00
import Derived.Test.YtilakddepaplhaaGreatHm15
import Derived.Test.YtilakddepaplhaaGreatHm16
set_option maxRecDepth 100000
set_option maxHeartbeats 16000000
set_option linter.unusedSimpArgs false
namespace Go.Proofs.YtilakddepaplhaaGreat
open Go.RowKit
def chk (s:Tx.St)(fs:List Fr):Rc.Rec:=⟨0,0,0,9,0,0,s.next,Rc.noOp,0,0,Rc.noKey,s.txns,dirL fs⟩
def takeX (s:Tx.St)(x:Lg.Lo×Int×Int)(y:Lg.Dk×Lg.Lo×Int)(z:Lg.Dk×Int):Tx.St×Int:=
 if x.2.2≠0 then(s,x.2.2)else if y.2.2≠0 then({s with disk:=y.1,log:=y.2.1},y.2.2)else({s with disk:=z.1,log:=y.2.1},z.2)
noncomputable def takeT (s:Tx.St) (fs:List Fr):Tx.St×Int:=
 takeX s (Lg.appendD s.log (chk s fs)) (Lg.forceD s.disk (Lg.appendD s.log (chk s fs)).1) (Ck.setD (Lg.forceD s.disk (Lg.appendD s.log (chk s fs)).1).1 (Lg.appendD s.log (chk s fs)).2.1)
def TkOut (x:Tx.St×Int)(fs:List Fr)(w:World)(e:Ending)(w':World):Prop:=
 ∃ q,e= .returned (.tuple #[storeV x.1 q,x.2])∧PoolR w' x.1 q fs∧Below w.heap.size w w'
structure StK (s s':Tx.St):Prop where
 lg:LogI s'
 dk:DkI s'.disk
 len:s'.disk.sectors.length=s.disk.sectors.length
 zl:s'.zlog=s.zlog
 zp:s'.zpages=s.zpages
 tx:s'.txns=s.txns
 nx:s'.next=s.next
theorem take_keep {s:Tx.St}(fs:List Fr)(hl:LogI s)(hd:DkI s.disk):StK s (takeT s fs).1:=by
 have h1:=hl.put (chk s fs)
 have h2:=h1.force
 have h3:=hd.force (Lg.appendD s.log (chk s fs)).1
 unfold takeT takeX
 split
 ·exact⟨hl,hd,rfl,rfl,rfl,rfl,rfl⟩
 ·split
  ·exact⟨h2,h3.1,h3.2,rfl,rfl,rfl,rfl⟩
  ·refine⟨h2.of rfl,?_,?_,rfl,rfl,rfl,rfl⟩
   ·show DkI (Ck.setD _ _).1
    unfold Ck.setD
    split
    ·exact h3.1
    ·exact(h3.1.write _ _).1
   ·show(Ck.setD _ _).1.sectors.length=_
    unfold Ck.setD
    split
    ·exact h3.2
    ·exact(h3.1.write _ _).2.trans h3.2
theorem ctake_any (s:Tx.St)(p:SP)(fs:List Fr)(hl:LogI s)(hd:DkI s.disk)(hf:FrI fs)(hts:s.txns.length≤800000)(w:World)(h:PoolR w s p fs):
 Calls Tryz.prog 10 #[storeV s p] w (TkOut (takeT s fs) fs w):=by
 have hds:(dirL fs).length≤4:=by rw[dirL_len,Sp.sort_len];have:=dirtP_len fs fs.length;rw[List.take_length]at this;have:=hf.n4;omega
 have HP:=Hq h
 have HF:=Hq hf
 have HTS:=Hq hts
 have HDS:=Hq hds
 have HL2:=hl.put (chk s fs)
 have HD:=Hq hd
 have HAP:=Hq (fun(DA:Option Addr) (dc:Nat) W hr=>show Calls Tryz.prog 30 #[.agg #[s.log.from_,s.log.n,s.log.end_,s.log.safe,s.log.tail],.agg #[(),(),(),.int .i64 9,(),(),s.next,(),(),"","",(),(),"",(),(),.slice p.T s.txns.length p.tc,.slice DA (dirL fs).length dc]] W (AppOut (Lg.appendD s.log (chk s fs)) W)from append_any s.log hl.b.e0 (by have:=hl.b.e1;omega) (by have:=hl.b.n0;omega) (by have:=hl.b.n1;omega) (by have:=hl.b.t0;have:=hl.b.e1;omega) (chk s fs) p.T DA p.tc dc W hr)
 unfold takeT
 generalize Lg.appendD s.log (chk s fs)=x at HAP HL2 ⊢
 obtain⟨l2,n2,e2⟩:=x
 simp only at HL2 ⊢
 have HFO:=Hq (fun(A:Option Addr) (c:Nat) W hr=>force_any s.disk hd.lb A c l2 HL2.b.e0 (by have h:=HL2.b.e1;simp only at h;omega) (by have h:=HL2.b.n0;simp only at h;omega) (by have h:=HL2.b.n1;simp only at h;omega) (by have h:=HL2.b.f;simp only at h;omega) (by have h:=HL2.b.f;simp only at h;omega) (by have h:=HL2.b.t0;have h2:=HL2.b.e1;simp only at h h2;omega) HL2.b.t0 HL2.b.t1 W hr)
 have HDF:=hd.force l2
 generalize Lg.forceD s.disk l2=y at HFO HDF ⊢
 obtain⟨d3,l3,e3⟩:=y
 simp only at HDF ⊢
 have HSM:=Hq (fun(A:Option Addr) (c:Nat) W hr=>cset_any d3 HDF.1.lb A c n2 W hr)
 generalize Ck.setD d3 n2=z at HSM ⊢
 obtain⟨d4,e4⟩:=z
 have HX1:=Hq (show e2≠0→takeX s (l2,n2,e2) (d3,l3,e3) (d4,e4)=(s,e2)from fun h=>by unfold takeX;rw[if_pos h])
 have HX2:=Hq (show e2=0→e3≠0→takeX s (l2,n2,e2) (d3,l3,e3) (d4,e4)=({s with disk:=d3,log:=l3},e3)from fun h h'=>by unfold takeX;rw[if_neg (fun hn=>hn h),if_pos h'])
 have HX3:=Hq (show e2=0→e3=0→takeX s (l2,n2,e2) (d3,l3,e3) (d4,e4)=({s with disk:=d4,log:=l3},e4)from fun h h'=>by unfold takeX;rw[if_neg (fun hn=>hn h),if_neg (fun hn=>hn h')])
 generalize takeX s (l2,n2,e2) (d3,l3,e3) (d4,e4)=t at HX1 HX2 HX3 ⊢
 clear h hf hts hl hd hds HL2 HDF
 go_enter Tryz.func10,Tryz.ntmps10
 go_upto_region 1 with fail
 have H0:=Hq (show BxL w.heap.size w [((stA s p),37),(#[(),(),(),"s",(),false,(),(),(),(),"","s",(),"s",()],37)] ((w.alloc (.cells (stA s p) 37)).alloc (.cells #[(),(),(),"s",(),false,(),(),(),(),"","s",(),"s",()] 37))from(((BxL.nil (Below.refl w.heap.size w)).new (by simp) (stA s p) 37).new (by simp) #[(),(),(),"s",(),false,(),(),(),(),"","s",(),"s",()] 37))
 obtain⟨W0,hW0⟩:∃ W,W=((w.alloc (.cells (stA s p) 37)).alloc (.cells #[(),(),(),"s",(),false,(),(),(),(),"","s",(),"s",()] 37)):=⟨_,rfl⟩
 rw[← hW0]at H0 ⊢
 clear hW0
 have HP0:=Hq (HP.out.below H0.out.below)
 go_cut [4,5,6] (fun a b c wc=>∃ g:Nat,a= .pointer (some ⟨g,0,none⟩)∧b= .int .i64 n2∧c= .int .i64 e2∧wc.heap[g]? =some (.cells #[l2.from_,l2.n,l2.end_,l2.safe,l2.tail] 31 (0,0))∧W0.heap.size≤g∧Below W0.heap.size W0 wc)
 case first=>
  have Z0:Below W0.heap.size W0 W0.drew:=(Below.refl _ W0).drew
  refine wp_region_held_drew (S:=(fun u=>Below W0.heap.size W0 u)) Kr ?_ (fun hHeld=>?_)
  ·exact Z0
  refine tkW 0 (some 8) (v:=?_) rfl ?_ ?_
  rotate_left
  ·intro u hSu;have hSv:=blkOld H0.out.get0 hSu;have ha:=(show u.cell? ⟨w.heap.size,13,none⟩=some (.slice p.T s.txns.length p.tc)from(by rw[blkCell hSv];rfl));have hb:=(show u.cell? ⟨w.heap.size,14,none⟩=some (.int .i64 s.next)from(by rw[blkCell hSv];rfl));clear hSu hSv;go_simp;(try with_reducible rfl)
  try simp only[Act.put,pS]
  refine tkV 1 (some 9) (v:=.agg #[s.log.from_,s.log.n,s.log.end_,s.log.safe,s.log.tail]) rfl (yieldsIf_load_mid (by rfl) 31 (.tmp 8) rfl w.heap.size 6 (by rfl) [.int .i64 s.log.from_,.int .i64 s.log.n,.int .i64 s.log.end_,.int .i64 s.log.safe,.string s.log.tail] _ (fun u hu j v hj=>by rw[blkCell (blkOld H0.out.get0 hu)];rcases j with _|_|_|_|_|j<;>simp at hj ⊢<;>exact hj) Tryz.underlying31 Kr Kr) ?_
  try simp only[Act.put,pS]
  refine tkW 2 (some 10) (v:=?_) rfl ?_ ?_
  rotate_left
  ·intro u hSu;have hSv:=blkOld H0.out.get0 hSu;have ha:=(show u.cell? ⟨w.heap.size,13,none⟩=some (.slice p.T s.txns.length p.tc)from(by rw[blkCell hSv];rfl));have hb:=(show u.cell? ⟨w.heap.size,14,none⟩=some (.int .i64 s.next)from(by rw[blkCell hSv];rfl));clear hSu hSv;go_simp;(try with_reducible rfl)
  try simp only[Act.put,pS]
  refine tkW 3 (some 11) (v:=?_) rfl ?_ ?_
  rotate_left
  ·intro u hSu;have hSv:=blkOld H0.out.get0 hSu;have ha:=(show u.cell? ⟨w.heap.size,13,none⟩=some (.slice p.T s.txns.length p.tc)from(by rw[blkCell hSv];rfl));have hb:=(show u.cell? ⟨w.heap.size,14,none⟩=some (.int .i64 s.next)from(by rw[blkCell hSv];rfl));clear hSu hSv;go_simp;(try with_reducible rfl)
  try simp only[Act.put,pS]
  refine tkV 4 (some 12) (v:=.agg (stA s p)) rfl (yieldsIf_load_mid (by rfl) 37 (.tmp 1) rfl w.heap.size 0 (by rfl) (stA s p).toList _ (fun u hu=>(by intro j v hj;rw[Nat.zero_add,blkCell (blkOld H0.out.get0 hu)];simpa using hj)) Tryz.underlying37 Kr Kr) ?_
  try simp only[Act.put,pS]
  refine tkW 6 (some 14) (v:=?_) rfl ?_ ?_
  rotate_left
  ·intro u hSu;have hSv:=blkOld H0.out.get0 hSu;have ha:=(show u.cell? ⟨w.heap.size,13,none⟩=some (.slice p.T s.txns.length p.tc)from(by rw[blkCell hSv];rfl));have hb:=(show u.cell? ⟨w.heap.size,14,none⟩=some (.int .i64 s.next)from(by rw[blkCell hSv];rfl));clear hSu hSv;go_simp;(try with_reducible rfl)
  try simp only[Act.put,pS]
  refine tkW 7 (some 15) (v:=?_) rfl ?_ ?_
  rotate_left
  ·intro u hSu;have hSv:=blkOld H0.out.get0 hSu;have ha:=(show u.cell? ⟨w.heap.size,13,none⟩=some (.slice p.T s.txns.length p.tc)from(by rw[blkCell hSv];rfl));have hb:=(show u.cell? ⟨w.heap.size,14,none⟩=some (.int .i64 s.next)from(by rw[blkCell hSv];rfl));clear hSu hSv;go_simp;(try with_reducible rfl)
  try simp only[Act.put,pS]
  refine wpAnyH_ready (rs:=[5,14]) Kr (by simp) ?_
  refine(AllReadyH.cons (o:={dst:=some 13,op:=_,type:=_,pos:=_,after:=_,guard:=_}) rfl (fun K hK=>?_) (AllReadyH.cons (o:={dst:=some 4,op:=_,type:=_,pos:=_,after:=_,guard:=_}) rfl (fun K hK=>?_) AllReadyH.nil))
  ·
   go_simp
   refine(cpdirty_any s p fs HF.out _ (HP0.out.below Z0)).mono ?_;rintro e v1 ⟨DA,dc,rfl,hdr,hb⟩;have Z1:=joinB Z0 hb;try clear hSn
   have hSn:=Z1
   clear hb
   refine hK.out _ _ ?_ (fun hHeld=>?_)
   ·exact hSn
   clear hK K
   try simp only[Act.put,pS]
   refine tkW 8 (some 16) (v:=?_) rfl ?_ ?_
   rotate_left
   ·intro u hSu;have hSv:=blkOld H0.out.get0 hSu;have ha:=(show u.cell? ⟨w.heap.size,13,none⟩=some (.slice p.T s.txns.length p.tc)from(by rw[blkCell hSv];rfl));have hb:=(show u.cell? ⟨w.heap.size,14,none⟩=some (.int .i64 s.next)from(by rw[blkCell hSv];rfl));clear hSu hSv;go_simp;(try with_reducible rfl)
   try simp only[Act.put,pS]
   refine wpAnyH_ready (rs:=[9,14]) Kr (by simp) ?_
   refine(AllReadyH.cons (o:={dst:=some 17,op:=_,type:=_,pos:=_,after:=_,guard:=_}) rfl (fun K hK=>?_) (AllReadyH.cons (o:={dst:=some 4,op:=_,type:=_,pos:=_,after:=_,guard:=_}) rfl (fun K hK=>?_) AllReadyH.nil))
   ·
    go_simp
    refine(HAP.out DA dc _ ⟨(HP0.out.below Z1).st.tx,hdr,⟨by have:=HTS.out;show s.txns.length≤_;omega,by have:=HDS.out;show(dirL fs).length≤_;omega⟩⟩).mono ?_;rintro e v2 ⟨rfl,hb⟩;have Z2:=joinB Z1 hb;clear hSn;have hSn:=Z2
    clear hb
    refine hK.out _ _ ?_ (fun hHeld=>?_)
    ·exact hSn
    clear hK K
    try simp only[Act.put,pS]
    refine tkW 10 (some 7) (v:=?_) rfl ?_ ?_
    rotate_left
    ·intro u hSu;have hSv:=blkOld H0.out.get0 hSu;have ha:=(show u.cell? ⟨w.heap.size,13,none⟩=some (.slice p.T s.txns.length p.tc)from(by rw[blkCell hSv];rfl));have hb:=(show u.cell? ⟨w.heap.size,14,none⟩=some (.int .i64 s.next)from(by rw[blkCell hSv];rfl));clear hSu hSv;go_simp;(try with_reducible rfl)
    try simp only[Act.put,pS]
    refine tkW 11 (some 18) (v:=?_) rfl ?_ ?_
    rotate_left
    ·intro u hSu;have hSv:=blkOld H0.out.get0 hSu;have ha:=(show u.cell? ⟨w.heap.size,13,none⟩=some (.slice p.T s.txns.length p.tc)from(by rw[blkCell hSv];rfl));have hb:=(show u.cell? ⟨w.heap.size,14,none⟩=some (.int .i64 s.next)from(by rw[blkCell hSv];rfl));clear hSu hSv;go_simp;(try with_reducible rfl)
    try simp only[Act.put,pS]
    refine tkW 12 (some 19) (v:=?_) rfl ?_ ?_
    rotate_left
    ·intro u hSu;have hSv:=blkOld H0.out.get0 hSu;have ha:=(show u.cell? ⟨w.heap.size,13,none⟩=some (.slice p.T s.txns.length p.tc)from(by rw[blkCell hSv];rfl));have hb:=(show u.cell? ⟨w.heap.size,14,none⟩=some (.int .i64 s.next)from(by rw[blkCell hSv];rfl));clear hSu hSv;go_simp;(try with_reducible rfl)
    try simp only[Act.put,pS]
    refine tkW 13 (some 20) (v:=?_) rfl ?_ ?_
    rotate_left
    ·intro u hSu;have hSv:=blkOld H0.out.get0 hSu;have ha:=(show u.cell? ⟨w.heap.size,13,none⟩=some (.slice p.T s.txns.length p.tc)from(by rw[blkCell hSv];rfl));have hb:=(show u.cell? ⟨w.heap.size,14,none⟩=some (.int .i64 s.next)from(by rw[blkCell hSv];rfl));clear hSu hSv;go_simp;(try with_reducible rfl)
    try simp only[Act.put,pS]
    refine rdH 14 (some 4) rfl (fun K hK=>?_)
    go_simp
    have hbA:=allocB v2 (.cells #[(),(),(),(),""] 31);have Z3:=joinB Z2 hbA;have HGn:=heap_alloc_new v2 (.cells #[(),(),(),(),""] 31);try clear hSn
    have hSn:=Z3
    refine hK.out _ _ ?_ (fun hHeld=>?_)
    ·exact hSn
    clear hK K
    try simp only[Act.put,pS]
    refine rdH 15 none rfl (fun K hK=>?_)
    refine wantedIf (by rfl) ?_
    refine wp_store_whole 31 (.tmp 4) (.tmp 18) rfl v2.heap.size #[l2.from_,l2.n,l2.end_,l2.safe,l2.tail] _ _ rfl rfl HGn Kr Kr Kr ?_
    have ZF:=rowB (g:=v2.heap.size) Z2.size Z3 #[l2.from_,l2.n,l2.end_,l2.safe,l2.tail]
    have HG4:=setRow_heap _ _ _ #[l2.from_,l2.n,l2.end_,l2.safe,l2.tail] _ _ HGn
    clear hSn
    have hSn:=ZF
    refine hK.out _ _ ?_ (fun hHeld=>?_)
    ·exact hSn
    clear hK K
    try simp only[Act.put,pS]
    refine tkW 16 (some 5) (v:=?_) rfl ?_ ?_
    rotate_left
    ·intro u hSu;have hSv:=blkOld H0.out.get0 hSu;have ha:=(show u.cell? ⟨w.heap.size,13,none⟩=some (.slice p.T s.txns.length p.tc)from(by rw[blkCell hSv];rfl));have hb:=(show u.cell? ⟨w.heap.size,14,none⟩=some (.int .i64 s.next)from(by rw[blkCell hSv];rfl));clear hSu hSv;go_simp;(try with_reducible rfl)
    try simp only[Act.put,pS]
    refine tkW 17 (some 6) (v:=?_) rfl ?_ ?_
    rotate_left
    ·intro u hSu;have hSv:=blkOld H0.out.get0 hSu;have ha:=(show u.cell? ⟨w.heap.size,13,none⟩=some (.slice p.T s.txns.length p.tc)from(by rw[blkCell hSv];rfl));have hb:=(show u.cell? ⟨w.heap.size,14,none⟩=some (.int .i64 s.next)from(by rw[blkCell hSv];rfl));clear hSu hSv;go_simp;(try with_reducible rfl)
    try simp only[Act.put,pS]
    refine wpAnyH_done Kr ?_ _
    clear hHeld hSn
    go_wp2_with fail
    go_meet
    case rel=>exact⟨_,rfl,rfl,rfl,HG4,Z2.size,ZF⟩
   ·
    go_simp
    have hbA:=allocB v1 (.cells #[(),(),(),(),""] 31);have Z2:=joinB Z1 hbA;have HGn:=heap_alloc_new v1 (.cells #[(),(),(),(),""] 31);try clear hSn
    have hSn:=Z2
    refine hK.out _ _ ?_ (fun hHeld=>?_)
    ·exact hSn
    clear hK K
    try simp only[Act.put,pS]
    refine rdH 9 (some 17) rfl (fun K hK=>?_)
    go_simp
    refine(HAP.out DA dc _ ⟨(HP0.out.below Z2).st.tx,hdr.below hbA,⟨by have:=HTS.out;show s.txns.length≤_;omega,by have:=HDS.out;show(dirL fs).length≤_;omega⟩⟩).mono ?_;rintro e v2 ⟨rfl,hb⟩;have Z3:=joinB Z2 hb;clear hSn;have hSn:=Z3
    have HGn:=blkOld HGn hb
    clear hb
    refine hK.out _ _ ?_ (fun hHeld=>?_)
    ·exact hSn
    clear hK K
    try simp only[Act.put,pS]
    refine tkW 10 (some 7) (v:=?_) rfl ?_ ?_
    rotate_left
    ·intro u hSu;have hSv:=blkOld H0.out.get0 hSu;have ha:=(show u.cell? ⟨w.heap.size,13,none⟩=some (.slice p.T s.txns.length p.tc)from(by rw[blkCell hSv];rfl));have hb:=(show u.cell? ⟨w.heap.size,14,none⟩=some (.int .i64 s.next)from(by rw[blkCell hSv];rfl));clear hSu hSv;go_simp;(try with_reducible rfl)
    try simp only[Act.put,pS]
    refine tkW 11 (some 18) (v:=?_) rfl ?_ ?_
    rotate_left
    ·intro u hSu;have hSv:=blkOld H0.out.get0 hSu;have ha:=(show u.cell? ⟨w.heap.size,13,none⟩=some (.slice p.T s.txns.length p.tc)from(by rw[blkCell hSv];rfl));have hb:=(show u.cell? ⟨w.heap.size,14,none⟩=some (.int .i64 s.next)from(by rw[blkCell hSv];rfl));clear hSu hSv;go_simp;(try with_reducible rfl)
    try simp only[Act.put,pS]
    refine tkW 12 (some 19) (v:=?_) rfl ?_ ?_
    rotate_left
    ·intro u hSu;have hSv:=blkOld H0.out.get0 hSu;have ha:=(show u.cell? ⟨w.heap.size,13,none⟩=some (.slice p.T s.txns.length p.tc)from(by rw[blkCell hSv];rfl));have hb:=(show u.cell? ⟨w.heap.size,14,none⟩=some (.int .i64 s.next)from(by rw[blkCell hSv];rfl));clear hSu hSv;go_simp;(try with_reducible rfl)
    try simp only[Act.put,pS]
    refine tkW 13 (some 20) (v:=?_) rfl ?_ ?_
    rotate_left
    ·intro u hSu;have hSv:=blkOld H0.out.get0 hSu;have ha:=(show u.cell? ⟨w.heap.size,13,none⟩=some (.slice p.T s.txns.length p.tc)from(by rw[blkCell hSv];rfl));have hb:=(show u.cell? ⟨w.heap.size,14,none⟩=some (.int .i64 s.next)from(by rw[blkCell hSv];rfl));clear hSu hSv;go_simp;(try with_reducible rfl)
    try simp only[Act.put,pS]
    refine rdH 15 none rfl (fun K hK=>?_)
    refine wantedIf (by rfl) ?_
    refine wp_store_whole 31 (.tmp 4) (.tmp 18) rfl v1.heap.size #[l2.from_,l2.n,l2.end_,l2.safe,l2.tail] _ _ rfl rfl HGn Kr Kr Kr ?_
    have ZF:=rowB (g:=v1.heap.size) Z1.size Z3 #[l2.from_,l2.n,l2.end_,l2.safe,l2.tail]
    have HG4:=setRow_heap _ _ _ #[l2.from_,l2.n,l2.end_,l2.safe,l2.tail] _ _ HGn
    clear hSn
    have hSn:=ZF
    refine hK.out _ _ ?_ (fun hHeld=>?_)
    ·exact hSn
    clear hK K
    try simp only[Act.put,pS]
    refine tkW 16 (some 5) (v:=?_) rfl ?_ ?_
    rotate_left
    ·intro u hSu;have hSv:=blkOld H0.out.get0 hSu;have ha:=(show u.cell? ⟨w.heap.size,13,none⟩=some (.slice p.T s.txns.length p.tc)from(by rw[blkCell hSv];rfl));have hb:=(show u.cell? ⟨w.heap.size,14,none⟩=some (.int .i64 s.next)from(by rw[blkCell hSv];rfl));clear hSu hSv;go_simp;(try with_reducible rfl)
    try simp only[Act.put,pS]
    refine tkW 17 (some 6) (v:=?_) rfl ?_ ?_
    rotate_left
    ·intro u hSu;have hSv:=blkOld H0.out.get0 hSu;have ha:=(show u.cell? ⟨w.heap.size,13,none⟩=some (.slice p.T s.txns.length p.tc)from(by rw[blkCell hSv];rfl));have hb:=(show u.cell? ⟨w.heap.size,14,none⟩=some (.int .i64 s.next)from(by rw[blkCell hSv];rfl));clear hSu hSv;go_simp;(try with_reducible rfl)
    try simp only[Act.put,pS]
    refine wpAnyH_done Kr ?_ _
    clear hHeld hSn
    go_wp2_with fail
    go_meet
    case rel=>exact⟨_,rfl,rfl,rfl,HG4,Z1.size,ZF⟩
  ·
   go_simp
   have hbA:=allocB W0.drew (.cells #[(),(),(),(),""] 31);have Z1:=joinB Z0 hbA;have HGn:=heap_alloc_new W0.drew (.cells #[(),(),(),(),""] 31);try clear hSn
   have hSn:=Z1
   refine hK.out _ _ ?_ (fun hHeld=>?_)
   ·exact hSn
   clear hK K
   try simp only[Act.put,pS]
   refine rdH 5 (some 13) rfl (fun K hK=>?_)
   go_simp
   refine(cpdirty_any s p fs HF.out _ (HP0.out.below Z1)).mono ?_;rintro e v1 ⟨DA,dc,rfl,hdr,hb⟩;have Z2:=joinB Z1 hb;try clear hSn
   have hSn:=Z2
   have HGn:=blkOld HGn hb
   clear hb
   refine hK.out _ _ ?_ (fun hHeld=>?_)
   ·exact hSn
   clear hK K
   try simp only[Act.put,pS]
   refine tkW 8 (some 16) (v:=?_) rfl ?_ ?_
   rotate_left
   ·intro u hSu;have hSv:=blkOld H0.out.get0 hSu;have ha:=(show u.cell? ⟨w.heap.size,13,none⟩=some (.slice p.T s.txns.length p.tc)from(by rw[blkCell hSv];rfl));have hb:=(show u.cell? ⟨w.heap.size,14,none⟩=some (.int .i64 s.next)from(by rw[blkCell hSv];rfl));clear hSu hSv;go_simp;(try with_reducible rfl)
   try simp only[Act.put,pS]
   refine rdH 9 (some 17) rfl (fun K hK=>?_)
   go_simp
   refine(HAP.out DA dc _ ⟨(HP0.out.below Z2).st.tx,hdr,⟨by have:=HTS.out;show s.txns.length≤_;omega,by have:=HDS.out;show(dirL fs).length≤_;omega⟩⟩).mono ?_;rintro e v2 ⟨rfl,hb⟩;have Z3:=joinB Z2 hb;clear hSn;have hSn:=Z3
   have HGn:=blkOld HGn hb
   clear hb
   refine hK.out _ _ ?_ (fun hHeld=>?_)
   ·exact hSn
   clear hK K
   try simp only[Act.put,pS]
   refine tkW 10 (some 7) (v:=?_) rfl ?_ ?_
   rotate_left
   ·intro u hSu;have hSv:=blkOld H0.out.get0 hSu;have ha:=(show u.cell? ⟨w.heap.size,13,none⟩=some (.slice p.T s.txns.length p.tc)from(by rw[blkCell hSv];rfl));have hb:=(show u.cell? ⟨w.heap.size,14,none⟩=some (.int .i64 s.next)from(by rw[blkCell hSv];rfl));clear hSu hSv;go_simp;(try with_reducible rfl)
   try simp only[Act.put,pS]
   refine tkW 11 (some 18) (v:=?_) rfl ?_ ?_
   rotate_left
   ·intro u hSu;have hSv:=blkOld H0.out.get0 hSu;have ha:=(show u.cell? ⟨w.heap.size,13,none⟩=some (.slice p.T s.txns.length p.tc)from(by rw[blkCell hSv];rfl));have hb:=(show u.cell? ⟨w.heap.size,14,none⟩=some (.int .i64 s.next)from(by rw[blkCell hSv];rfl));clear hSu hSv;go_simp;(try with_reducible rfl)
   try simp only[Act.put,pS]
   refine tkW 12 (some 19) (v:=?_) rfl ?_ ?_
   rotate_left
   ·intro u hSu;have hSv:=blkOld H0.out.get0 hSu;have ha:=(show u.cell? ⟨w.heap.size,13,none⟩=some (.slice p.T s.txns.length p.tc)from(by rw[blkCell hSv];rfl));have hb:=(show u.cell? ⟨w.heap.size,14,none⟩=some (.int .i64 s.next)from(by rw[blkCell hSv];rfl));clear hSu hSv;go_simp;(try with_reducible rfl)
   try simp only[Act.put,pS]
   refine tkW 13 (some 20) (v:=?_) rfl ?_ ?_
   rotate_left
   ·intro u hSu;have hSv:=blkOld H0.out.get0 hSu;have ha:=(show u.cell? ⟨w.heap.size,13,none⟩=some (.slice p.T s.txns.length p.tc)from(by rw[blkCell hSv];rfl));have hb:=(show u.cell? ⟨w.heap.size,14,none⟩=some (.int .i64 s.next)from(by rw[blkCell hSv];rfl));clear hSu hSv;go_simp;(try with_reducible rfl)
   try simp only[Act.put,pS]
   refine rdH 15 none rfl (fun K hK=>?_)
   refine wantedIf (by rfl) ?_
   refine wp_store_whole 31 (.tmp 4) (.tmp 18) rfl W0.drew.heap.size #[l2.from_,l2.n,l2.end_,l2.safe,l2.tail] _ _ rfl rfl HGn Kr Kr Kr ?_
   have ZF:=rowB (g:=W0.drew.heap.size) (by show W0.heap.size≤W0.heap.size;omega) Z3 #[l2.from_,l2.n,l2.end_,l2.safe,l2.tail]
   have HG4:=setRow_heap _ _ _ #[l2.from_,l2.n,l2.end_,l2.safe,l2.tail] _ _ HGn
   clear hSn
   have hSn:=ZF
   refine hK.out _ _ ?_ (fun hHeld=>?_)
   ·exact hSn
   clear hK K
   try simp only[Act.put,pS]
   refine tkW 16 (some 5) (v:=?_) rfl ?_ ?_
   rotate_left
   ·intro u hSu;have hSv:=blkOld H0.out.get0 hSu;have ha:=(show u.cell? ⟨w.heap.size,13,none⟩=some (.slice p.T s.txns.length p.tc)from(by rw[blkCell hSv];rfl));have hb:=(show u.cell? ⟨w.heap.size,14,none⟩=some (.int .i64 s.next)from(by rw[blkCell hSv];rfl));clear hSu hSv;go_simp;(try with_reducible rfl)
   try simp only[Act.put,pS]
   refine tkW 17 (some 6) (v:=?_) rfl ?_ ?_
   rotate_left
   ·intro u hSu;have hSv:=blkOld H0.out.get0 hSu;have ha:=(show u.cell? ⟨w.heap.size,13,none⟩=some (.slice p.T s.txns.length p.tc)from(by rw[blkCell hSv];rfl));have hb:=(show u.cell? ⟨w.heap.size,14,none⟩=some (.int .i64 s.next)from(by rw[blkCell hSv];rfl));clear hSu hSv;go_simp;(try with_reducible rfl)
   try simp only[Act.put,pS]
   refine wpAnyH_done Kr ?_ _
   clear hHeld hSn
   go_wp2_with fail
   go_meet
   case rel=>exact⟨_,rfl,rfl,rfl,HG4,Nat.le_refl _,ZF⟩
 case rest=>
  obtain⟨g,rfl,rfl,rfl,hg,hgw,hbc⟩:=hcut
  obtain⟨w1,rfl⟩:∃ wm:World,wm=wc:=⟨_,rfl⟩
  have H1:=Hq (H0.out.step hbc)
  have HG:=Hq hg
  have HP1:=Hq (HP0.out.below hbc)
  have hlt:w.heap.size+1<g:=Nat.lt_of_lt_of_le (H0.out.lt (i:=1) (by simp)) hgw
  clear hg hgw hbc H0 HP0 HAP
  by_cases h2:e2=0
  ·have h2b:(e2 != 0)=false:=by rw[h2];rfl
   have HX2':=Hq (HX2.out h2)
   have HX3':=Hq (HX3.out h2)
   clear HX1 HX2 HX3 h2
   go_upto_region 5 with(first
    |(with_reducible refine listLoad Kr 31 (.tmp 4) rfl g rfl #[l2.from_,l2.n,l2.end_,l2.safe,l2.tail] _ HG.out _ Tryz.underlying31 Kr Kr ?_)
    |(with_reducible refine listPut Kr 31 (.tmp 26) (.tmp 25) rfl w.heap.size 6 #[l2.from_,l2.n,l2.end_,l2.safe,l2.tail] (stA s p) (stA {s with log:=l2} p) _ rfl rfl H1.out.get0 Kr Kr Kr Kr ?_))
   have H2:=Hq (show BxL w.heap.size w [((stA {s with log:=l2} p),37),(#[(),(),(),"s",(),false,(),(),(),(),"","s",(),"s",()],37)] (w1.setRow w.heap.size (stA {s with log:=l2} p))from H1.out.row 0 (stA {s with log:=l2} p) _ rfl)
   have HP2:=Hq ((HP1.out.other (t:=37) H1.out.get0 (by decide) (by decide) (by decide) (stA {s with log:=l2} p)).log l2)
   generalize w1.setRow w.heap.size (stA {s with log:=l2} p)=w2 at H2 HP2 ⊢
   clear H1 HP1 HG
   go_upto_region 6 with(first
    |(with_reducible refine listPart Kr 29 (.tmp 28) rfl w.heap.size 3 rfl #[.slice p.A s.disk.sectors.length p.c,s.disk.left,s.disk.down] (stA {s with log:=l2} p) _ H2.out.get0 Kr _ Tryz.underlying29 Kr Kr ?_)
    |(with_reducible refine listPart Kr 31 (.tmp 30) rfl w.heap.size 6 rfl #[l2.from_,l2.n,l2.end_,l2.safe,l2.tail] (stA {s with log:=l2} p) _ H2.out.get0 Kr _ Tryz.underlying31 Kr Kr ?_)
    |(go_at_call 31;(refine(HFO.out _ _ _ HP2.out.st.dk).mono ?_);rintro e w3 ⟨A3,c3,rfl,hr3,ht3,hb3⟩;have H3:=Hq (H2.out.step hb3);have HP3:=Hq (HP2.out.disk hb3 l3 hr3 (ht3.elim (fun e=>by rw[e];exact HP2.out.st.dt.below hb3) (fun e=>e.mono (Nat.zero_le _))));clear hr3 ht3)
    |(with_reducible refine listPut Kr 29 (.tmp 36) (.tmp 33) rfl w.heap.size 3 #[.slice A3 d3.sectors.length c3,d3.left,d3.down] (stA {s with log:=l2} p) (stA {s with disk:=d3,log:=l2} {p with A:=A3,c:=c3}) _ rfl rfl H3.out.get0 Kr Kr Kr Kr ?_)
    |(with_reducible refine listPut Kr 31 (.tmp 37) (.tmp 34) rfl w.heap.size 6 #[l3.from_,l3.n,l3.end_,l3.safe,l3.tail] (stA {s with disk:=d3,log:=l2} {p with A:=A3,c:=c3}) (stA {s with disk:=d3,log:=l3} {p with A:=A3,c:=c3}) _ rfl rfl (setRow_heap _ _ _ _ _ _ H3.out.get0) Kr Kr Kr Kr ?_))
   have H4:=Hq (show BxL w.heap.size w [((stA {s with disk:=d3,log:=l3} {p with A:=A3,c:=c3}),37),(#[(),(),(),"s",(),false,(),(),(),(),"","s",(),"s",()],37)] ((w3.setRow w.heap.size (stA {s with disk:=d3,log:=l2} {p with A:=A3,c:=c3})).setRow w.heap.size (stA {s with disk:=d3,log:=l3} {p with A:=A3,c:=c3}))from(H3.out.row 0 (stA {s with disk:=d3,log:=l2} {p with A:=A3,c:=c3}) _ rfl).row 0 (stA {s with disk:=d3,log:=l3} {p with A:=A3,c:=c3}) _ rfl)
   have HP4:=Hq ((HP3.out.other (t:=37) H3.out.get0 (by decide) (by decide) (by decide) (stA {s with disk:=d3,log:=l2} {p with A:=A3,c:=c3})).other (t:=37) (setRow_heap _ _ _ _ _ _ H3.out.get0) (by decide) (by decide) (by decide) (stA {s with disk:=d3,log:=l3} {p with A:=A3,c:=c3}))
   generalize (w3.setRow w.heap.size (stA {s with disk:=d3,log:=l2} {p with A:=A3,c:=c3})).setRow w.heap.size (stA {s with disk:=d3,log:=l3} {p with A:=A3,c:=c3})=w4 at H4 HP4 ⊢
   clear H2 HP2 H3 HP3 hb3 HFO
   by_cases h3:e3=0
   ·have h3b:(e3==0)=true:=by rw[h3];rfl
    have HX:=Hq (HX3'.out h3)
    clear HX2' HX3' h3
    go_upto_region 8 with(first
     |(with_reducible refine listPart Kr 29 (.tmp 41) rfl w.heap.size 3 rfl #[.slice A3 d3.sectors.length c3,d3.left,d3.down] (stA {s with disk:=d3,log:=l3} {p with A:=A3,c:=c3}) _ H4.out.get0 Kr _ Tryz.underlying29 Kr Kr ?_)
     |(go_at_call 21;(refine(HSM.out _ _ _ HP4.out.st.dk).mono ?_);rintro e w5 ⟨A4,c4,rfl,hr5,ht5,hb5⟩;have H5:=Hq (H4.out.step hb5);have HP5:=Hq (HP4.out.disk hb5 l3 hr5 (ht5.elim (fun e=>by rw[e];exact HP4.out.st.dt.below hb5) (fun e=>e.mono (Nat.zero_le _))));clear hr5 ht5)
     |(with_reducible refine listPut Kr 29 (.tmp 47) (.tmp 45) rfl w.heap.size 3 #[.slice A4 d4.sectors.length c4,d4.left,d4.down] (stA {s with disk:=d3,log:=l3} {p with A:=A3,c:=c3}) (stA {s with disk:=d4,log:=l3} {p with A:=A4,c:=c4}) _ rfl rfl H5.out.get0 Kr Kr Kr Kr ?_))
    have H6:=Hq (show BxL w.heap.size w [((stA {s with disk:=d4,log:=l3} {p with A:=A4,c:=c4}),37),(#[(),(),(),"s",(),false,(),(),(),(),"","s",(),"s",()],37)] (w5.setRow w.heap.size (stA {s with disk:=d4,log:=l3} {p with A:=A4,c:=c4}))from H5.out.row 0 (stA {s with disk:=d4,log:=l3} {p with A:=A4,c:=c4}) _ rfl)
    have HP6:=Hq (HP5.out.other (t:=37) H5.out.get0 (by decide) (by decide) (by decide) (stA {s with disk:=d4,log:=l3} {p with A:=A4,c:=c4}))
    generalize w5.setRow w.heap.size (stA {s with disk:=d4,log:=l3} {p with A:=A4,c:=c4})=w6 at H6 HP6 ⊢
    clear H4 HP4 H5 HP5 hb5 HSM
    go_wp2_with (first|(with_reducible refine listLoad Kr 37 (.tmp 1) rfl w.heap.size rfl (stA {s with disk:=d4,log:=l3} {p with A:=A4,c:=c4}) _ H6.out.get0 _ Tryz.underlying37 Kr Kr ?_)|(with_reducible refine listStore Kr 37 (.tmp 2) (.tmp 48) rfl (w.heap.size+1) (stA {s with disk:=d4,log:=l3} {p with A:=A4,c:=c4}) _ _ rfl rfl H6.out.get1 Kr Kr Kr ?_))
    refine bodyPost_ret (v:=.tuple #[.agg (stA {s with disk:=d4,log:=l3} {p with A:=A4,c:=c4}),e4]) (results_cell2 rfl _ _ rfl (load_whole (setRow_heap _ _ _ _ _ _ H6.out.get1) Tryz.underlying37 Kr Kr) rfl) rfl ?_
    rw[HX.out]
    exact⟨{p with A:=A4,c:=c4},rfl,HP6.out.other (t:=37) H6.out.get1 (by decide) (by decide) (by decide) _,(H6.out.row 1 (stA {s with disk:=d4,log:=l3} {p with A:=A4,c:=c4}) _ rfl).below⟩
   ·have h3b:(e3==0)=false:=beq_eq_false_iff_ne.2 h3
    have HX:=Hq (HX2'.out h3)
    clear HX2' HX3' h3
    go_wp2_with (first|(with_reducible refine listLoad Kr 37 (.tmp 1) rfl w.heap.size rfl (stA {s with disk:=d3,log:=l3} {p with A:=A3,c:=c3}) _ H4.out.get0 _ Tryz.underlying37 Kr Kr ?_)|(with_reducible refine listStore Kr 37 (.tmp 2) (.tmp 48) rfl (w.heap.size+1) (stA {s with disk:=d3,log:=l3} {p with A:=A3,c:=c3}) _ _ rfl rfl H4.out.get1 Kr Kr Kr ?_))
    refine bodyPost_ret (v:=.tuple #[.agg (stA {s with disk:=d3,log:=l3} {p with A:=A3,c:=c3}),e3]) (results_cell2 rfl _ _ rfl (load_whole (setRow_heap _ _ _ _ _ _ H4.out.get1) Tryz.underlying37 Kr Kr) rfl) rfl ?_
    rw[HX.out]
    exact⟨{p with A:=A3,c:=c3},rfl,HP4.out.other (t:=37) H4.out.get1 (by decide) (by decide) (by decide) _,(H4.out.row 1 (stA {s with disk:=d3,log:=l3} {p with A:=A3,c:=c3}) _ rfl).below⟩
  ·have h2b:(e2 != 0)=true:=bne_iff_ne.2 h2
   have HX:=Hq (HX1.out h2)
   clear HX1 HX2 HX3 h2
   go_wp2_with (first|(with_reducible refine listLoad Kr 37 (.tmp 1) rfl w.heap.size rfl (stA s p) _ H1.out.get0 _ Tryz.underlying37 Kr Kr ?_)|(with_reducible refine listStore Kr 37 (.tmp 2) (.tmp 23) rfl (w.heap.size+1) (stA s p) _ _ rfl rfl H1.out.get1 Kr Kr Kr ?_))
   refine bodyPost_ret (v:=.tuple #[.agg (stA s p),e2]) (results_cell2 rfl _ _ rfl (load_whole (setRow_heap _ _ _ _ _ _ H1.out.get1) Tryz.underlying37 Kr Kr) rfl) rfl ?_
   rw[HX.out]
   exact⟨p,rfl,HP1.out.other (t:=37) H1.out.get1 (by decide) (by decide) (by decide) _,(H1.out.row 1 (stA s p) _ rfl).below⟩
theorem rtake_any (s:Tx.St)(p:SP)(fs:List Fr)(hl:LogI s)(hd:DkI s.disk)(hf:FrI fs)(hts:s.txns.length≤800000)(w:World)(h:PoolR w s p fs):
 Calls Tryz.prog 11 #[storeV s p] w (TkOut (takeT s fs) fs w):=by
 have hds:(dirL fs).length≤4:=by rw[dirL_len,Sp.sort_len];have:=dirtP_len fs fs.length;rw[List.take_length]at this;have:=hf.n4;omega
 have HP:=Hq h
 have HF:=Hq hf
 have HTS:=Hq hts
 have HDS:=Hq hds
 have HL2:=hl.put (chk s fs)
 have HD:=Hq hd
 have HAP:=Hq (fun(DA:Option Addr) (dc:Nat) W hr=>show Calls Tryz.prog 32 #[.agg #[s.log.from_,s.log.n,s.log.end_,s.log.safe,s.log.tail],.agg #[(),(),(),.int .i64 9,(),(),s.next,(),(),"","",(),(),"",(),(),.slice p.T s.txns.length p.tc,.slice DA (dirL fs).length dc]] W (AppOut (Lg.appendD s.log (chk s fs)) W)from rappend_any s.log hl.b.e0 (by have:=hl.b.e1;omega) hl.b.n0 (by have:=hl.b.n1;omega) (by have:=hl.b.t0;have:=hl.b.e1;omega) (chk s fs) p.T DA p.tc dc W hr)
 unfold takeT
 generalize Lg.appendD s.log (chk s fs)=x at HAP HL2 ⊢
 obtain⟨l2,n2,e2⟩:=x
 simp only at HL2 ⊢
 have HFO:=Hq (fun(A:Option Addr) (c:Nat) W hr ht=>rforce_any s.disk hd.lb A c l2 HL2.al (by have h:=HL2.b.e1;simp only at h;omega) (by have h:=HL2.b.n0;simp only at h;omega) (by have h:=HL2.b.n1;simp only at h;omega) (by have h:=HL2.b.f;simp only at h;omega) (by have h:=HL2.b.f;simp only at h;omega) (by have h:=HL2.b.t0;have h2:=HL2.b.e1;simp only at h h2;omega) W hr ht)
 have HDF:=hd.force l2
 generalize Lg.forceD s.disk l2=y at HFO HDF ⊢
 obtain⟨d3,l3,e3⟩:=y
 simp only at HDF ⊢
 have HSM:=Hq (fun(A:Option Addr) (c:Nat) W hr=>rset_any d3 HDF.1.lb A c n2 W hr)
 generalize Ck.setD d3 n2=z at HSM ⊢
 obtain⟨d4,e4⟩:=z
 have HX1:=Hq (show e2≠0→takeX s (l2,n2,e2) (d3,l3,e3) (d4,e4)=(s,e2)from fun h=>by unfold takeX;rw[if_pos h])
 have HX2:=Hq (show e2=0→e3≠0→takeX s (l2,n2,e2) (d3,l3,e3) (d4,e4)=({s with disk:=d3,log:=l3},e3)from fun h h'=>by unfold takeX;rw[if_neg (fun hn=>hn h),if_pos h'])
 have HX3:=Hq (show e2=0→e3=0→takeX s (l2,n2,e2) (d3,l3,e3) (d4,e4)=({s with disk:=d4,log:=l3},e4)from fun h h'=>by unfold takeX;rw[if_neg (fun hn=>hn h),if_neg (fun hn=>hn h')])
 generalize takeX s (l2,n2,e2) (d3,l3,e3) (d4,e4)=t at HX1 HX2 HX3 ⊢
 clear h hf hts hl hd hds HL2 HDF
 go_enter Tryz.func11,Tryz.ntmps11
 go_upto_region 1 with fail
 have H0:=Hq (show BxL w.heap.size w [((stA s p),37),(#[(),(),(),"s",(),false,(),(),(),(),"","s",(),"s",()],37)] ((w.alloc (.cells (stA s p) 37)).alloc (.cells #[(),(),(),"s",(),false,(),(),(),(),"","s",(),"s",()] 37))from(((BxL.nil (Below.refl w.heap.size w)).new (by simp) (stA s p) 37).new (by simp) #[(),(),(),"s",(),false,(),(),(),(),"","s",(),"s",()] 37))
 obtain⟨W0,hW0⟩:∃ W,W=((w.alloc (.cells (stA s p) 37)).alloc (.cells #[(),(),(),"s",(),false,(),(),(),(),"","s",(),"s",()] 37)):=⟨_,rfl⟩
 rw[← hW0]at H0 ⊢
 clear hW0
 have HP0:=Hq (HP.out.below H0.out.below)
 go_cut [4,5,6] (fun a b c wc=>∃ g:Nat,a= .pointer (some ⟨g,0,none⟩)∧b= .int .i64 n2∧c= .int .i64 e2∧wc.heap[g]? =some (.cells #[l2.from_,l2.n,l2.end_,l2.safe,l2.tail] 31 (0,0))∧W0.heap.size≤g∧Below W0.heap.size W0 wc)
 case first=>
  have Z0:Below W0.heap.size W0 W0.drew:=(Below.refl _ W0).drew
  refine wp_region_held_drew (S:=(fun u=>Below W0.heap.size W0 u)) Kr ?_ (fun hHeld=>?_)
  ·exact Z0
  refine tkW 0 (some 12) (v:=?_) rfl ?_ ?_
  rotate_left
  ·intro u hSu;have hSv:=blkOld H0.out.get0 hSu;have ha:=(show u.cell? ⟨w.heap.size,13,none⟩=some (.slice p.T s.txns.length p.tc)from(by rw[blkCell hSv];rfl));have hb:=(show u.cell? ⟨w.heap.size,14,none⟩=some (.int .i64 s.next)from(by rw[blkCell hSv];rfl));clear hSu hSv;go_simp;(try with_reducible rfl)
  try simp only[Act.put,pS]
  refine tkV 1 (some 13) (v:=.agg #[s.log.from_,s.log.n,s.log.end_,s.log.safe,s.log.tail]) rfl (yieldsIf_load_mid (by rfl) 31 (.tmp 12) rfl w.heap.size 6 (by rfl) [.int .i64 s.log.from_,.int .i64 s.log.n,.int .i64 s.log.end_,.int .i64 s.log.safe,.string s.log.tail] _ (fun u hu j v hj=>by rw[blkCell (blkOld H0.out.get0 hu)];rcases j with _|_|_|_|_|j<;>simp at hj ⊢<;>exact hj) Tryz.underlying31 Kr Kr) ?_
  try simp only[Act.put,pS]
  refine tkW 2 (some 14) (v:=?_) rfl ?_ ?_
  rotate_left
  ·intro u hSu;have hSv:=blkOld H0.out.get0 hSu;have ha:=(show u.cell? ⟨w.heap.size,13,none⟩=some (.slice p.T s.txns.length p.tc)from(by rw[blkCell hSv];rfl));have hb:=(show u.cell? ⟨w.heap.size,14,none⟩=some (.int .i64 s.next)from(by rw[blkCell hSv];rfl));clear hSu hSv;go_simp;(try with_reducible rfl)
  try simp only[Act.put,pS]
  refine tkW 3 (some 15) (v:=?_) rfl ?_ ?_
  rotate_left
  ·intro u hSu;have hSv:=blkOld H0.out.get0 hSu;have ha:=(show u.cell? ⟨w.heap.size,13,none⟩=some (.slice p.T s.txns.length p.tc)from(by rw[blkCell hSv];rfl));have hb:=(show u.cell? ⟨w.heap.size,14,none⟩=some (.int .i64 s.next)from(by rw[blkCell hSv];rfl));clear hSu hSv;go_simp;(try with_reducible rfl)
  try simp only[Act.put,pS]
  refine tkV 4 (some 16) (v:=.agg (stA s p)) rfl (yieldsIf_load_mid (by rfl) 37 (.tmp 1) rfl w.heap.size 0 (by rfl) (stA s p).toList _ (fun u hu=>(by intro j v hj;rw[Nat.zero_add,blkCell (blkOld H0.out.get0 hu)];simpa using hj)) Tryz.underlying37 Kr Kr) ?_
  try simp only[Act.put,pS]
  refine tkW 6 (some 18) (v:=?_) rfl ?_ ?_
  rotate_left
  ·intro u hSu;have hSv:=blkOld H0.out.get0 hSu;have ha:=(show u.cell? ⟨w.heap.size,13,none⟩=some (.slice p.T s.txns.length p.tc)from(by rw[blkCell hSv];rfl));have hb:=(show u.cell? ⟨w.heap.size,14,none⟩=some (.int .i64 s.next)from(by rw[blkCell hSv];rfl));clear hSu hSv;go_simp;(try with_reducible rfl)
  try simp only[Act.put,pS]
  refine tkW 7 (some 19) (v:=?_) rfl ?_ ?_
  rotate_left
  ·intro u hSu;have hSv:=blkOld H0.out.get0 hSu;have ha:=(show u.cell? ⟨w.heap.size,13,none⟩=some (.slice p.T s.txns.length p.tc)from(by rw[blkCell hSv];rfl));have hb:=(show u.cell? ⟨w.heap.size,14,none⟩=some (.int .i64 s.next)from(by rw[blkCell hSv];rfl));clear hSu hSv;go_simp;(try with_reducible rfl)
  try simp only[Act.put,pS]
  refine wpAnyH_ready (rs:=[5,14]) Kr (by simp) ?_
  refine(AllReadyH.cons (o:={dst:=some 17,op:=_,type:=_,pos:=_,after:=_,guard:=_}) rfl (fun K hK=>?_) (AllReadyH.cons (o:={dst:=some 4,op:=_,type:=_,pos:=_,after:=_,guard:=_}) rfl (fun K hK=>?_) AllReadyH.nil))
  ·
   go_simp
   refine(rdirty_any s p fs HF.out _ (HP0.out.below Z0)).mono ?_;rintro e v1 ⟨DA,dc,rfl,hdr,hb⟩;have Z1:=joinB Z0 hb;try clear hSn
   have hSn:=Z1
   clear hb
   refine hK.out _ _ ?_ (fun hHeld=>?_)
   ·exact hSn
   clear hK K
   try simp only[Act.put,pS]
   refine tkW 8 (some 20) (v:=?_) rfl ?_ ?_
   rotate_left
   ·intro u hSu;have hSv:=blkOld H0.out.get0 hSu;have ha:=(show u.cell? ⟨w.heap.size,13,none⟩=some (.slice p.T s.txns.length p.tc)from(by rw[blkCell hSv];rfl));have hb:=(show u.cell? ⟨w.heap.size,14,none⟩=some (.int .i64 s.next)from(by rw[blkCell hSv];rfl));clear hSu hSv;go_simp;(try with_reducible rfl)
   try simp only[Act.put,pS]
   refine wpAnyH_ready (rs:=[9,14]) Kr (by simp) ?_
   refine(AllReadyH.cons (o:={dst:=some 21,op:=_,type:=_,pos:=_,after:=_,guard:=_}) rfl (fun K hK=>?_) (AllReadyH.cons (o:={dst:=some 4,op:=_,type:=_,pos:=_,after:=_,guard:=_}) rfl (fun K hK=>?_) AllReadyH.nil))
   ·
    go_simp
    refine(HAP.out DA dc _ ⟨(HP0.out.below Z1).st.tx,hdr,⟨by have:=HTS.out;show s.txns.length≤_;omega,by have:=HDS.out;show(dirL fs).length≤_;omega⟩⟩).mono ?_;rintro e v2 ⟨rfl,hb⟩;have Z2:=joinB Z1 hb;clear hSn;have hSn:=Z2
    clear hb
    refine hK.out _ _ ?_ (fun hHeld=>?_)
    ·exact hSn
    clear hK K
    try simp only[Act.put,pS]
    refine tkW 10 (some 11) (v:=?_) rfl ?_ ?_
    rotate_left
    ·intro u hSu;have hSv:=blkOld H0.out.get0 hSu;have ha:=(show u.cell? ⟨w.heap.size,13,none⟩=some (.slice p.T s.txns.length p.tc)from(by rw[blkCell hSv];rfl));have hb:=(show u.cell? ⟨w.heap.size,14,none⟩=some (.int .i64 s.next)from(by rw[blkCell hSv];rfl));clear hSu hSv;go_simp;(try with_reducible rfl)
    try simp only[Act.put,pS]
    refine tkW 11 (some 22) (v:=?_) rfl ?_ ?_
    rotate_left
    ·intro u hSu;have hSv:=blkOld H0.out.get0 hSu;have ha:=(show u.cell? ⟨w.heap.size,13,none⟩=some (.slice p.T s.txns.length p.tc)from(by rw[blkCell hSv];rfl));have hb:=(show u.cell? ⟨w.heap.size,14,none⟩=some (.int .i64 s.next)from(by rw[blkCell hSv];rfl));clear hSu hSv;go_simp;(try with_reducible rfl)
    try simp only[Act.put,pS]
    refine tkW 12 (some 23) (v:=?_) rfl ?_ ?_
    rotate_left
    ·intro u hSu;have hSv:=blkOld H0.out.get0 hSu;have ha:=(show u.cell? ⟨w.heap.size,13,none⟩=some (.slice p.T s.txns.length p.tc)from(by rw[blkCell hSv];rfl));have hb:=(show u.cell? ⟨w.heap.size,14,none⟩=some (.int .i64 s.next)from(by rw[blkCell hSv];rfl));clear hSu hSv;go_simp;(try with_reducible rfl)
    try simp only[Act.put,pS]
    refine tkW 13 (some 24) (v:=?_) rfl ?_ ?_
    rotate_left
    ·intro u hSu;have hSv:=blkOld H0.out.get0 hSu;have ha:=(show u.cell? ⟨w.heap.size,13,none⟩=some (.slice p.T s.txns.length p.tc)from(by rw[blkCell hSv];rfl));have hb:=(show u.cell? ⟨w.heap.size,14,none⟩=some (.int .i64 s.next)from(by rw[blkCell hSv];rfl));clear hSu hSv;go_simp;(try with_reducible rfl)
    try simp only[Act.put,pS]
    refine rdH 14 (some 4) rfl (fun K hK=>?_)
    go_simp
    have hbA:=allocB v2 (.cells #[(),(),(),(),""] 31);have Z3:=joinB Z2 hbA;have HGn:=heap_alloc_new v2 (.cells #[(),(),(),(),""] 31);try clear hSn
    have hSn:=Z3
    refine hK.out _ _ ?_ (fun hHeld=>?_)
    ·exact hSn
    clear hK K
    try simp only[Act.put,pS]
    refine rdH 15 none rfl (fun K hK=>?_)
    refine wantedIf (by rfl) ?_
    refine wp_store_whole 31 (.tmp 4) (.tmp 22) rfl v2.heap.size #[l2.from_,l2.n,l2.end_,l2.safe,l2.tail] _ _ rfl rfl HGn Kr Kr Kr ?_
    have ZF:=rowB (g:=v2.heap.size) Z2.size Z3 #[l2.from_,l2.n,l2.end_,l2.safe,l2.tail]
    have HG4:=setRow_heap _ _ _ #[l2.from_,l2.n,l2.end_,l2.safe,l2.tail] _ _ HGn
    clear hSn
    have hSn:=ZF
    refine hK.out _ _ ?_ (fun hHeld=>?_)
    ·exact hSn
    clear hK K
    try simp only[Act.put,pS]
    refine tkW 16 (some 5) (v:=?_) rfl ?_ ?_
    rotate_left
    ·intro u hSu;have hSv:=blkOld H0.out.get0 hSu;have ha:=(show u.cell? ⟨w.heap.size,13,none⟩=some (.slice p.T s.txns.length p.tc)from(by rw[blkCell hSv];rfl));have hb:=(show u.cell? ⟨w.heap.size,14,none⟩=some (.int .i64 s.next)from(by rw[blkCell hSv];rfl));clear hSu hSv;go_simp;(try with_reducible rfl)
    try simp only[Act.put,pS]
    refine tkW 17 (some 6) (v:=?_) rfl ?_ ?_
    rotate_left
    ·intro u hSu;have hSv:=blkOld H0.out.get0 hSu;have ha:=(show u.cell? ⟨w.heap.size,13,none⟩=some (.slice p.T s.txns.length p.tc)from(by rw[blkCell hSv];rfl));have hb:=(show u.cell? ⟨w.heap.size,14,none⟩=some (.int .i64 s.next)from(by rw[blkCell hSv];rfl));clear hSu hSv;go_simp;(try with_reducible rfl)
    try simp only[Act.put,pS]
    refine wpAnyH_done Kr ?_ _
    clear hHeld hSn
    go_wp2_with fail
    go_meet
    case rel=>exact⟨_,rfl,rfl,rfl,HG4,Z2.size,ZF⟩
   ·
    go_simp
    have hbA:=allocB v1 (.cells #[(),(),(),(),""] 31);have Z2:=joinB Z1 hbA;have HGn:=heap_alloc_new v1 (.cells #[(),(),(),(),""] 31);try clear hSn
    have hSn:=Z2
    refine hK.out _ _ ?_ (fun hHeld=>?_)
    ·exact hSn
    clear hK K
    try simp only[Act.put,pS]
    refine rdH 9 (some 21) rfl (fun K hK=>?_)
    go_simp
    refine(HAP.out DA dc _ ⟨(HP0.out.below Z2).st.tx,hdr.below hbA,⟨by have:=HTS.out;show s.txns.length≤_;omega,by have:=HDS.out;show(dirL fs).length≤_;omega⟩⟩).mono ?_;rintro e v2 ⟨rfl,hb⟩;have Z3:=joinB Z2 hb;clear hSn;have hSn:=Z3
    have HGn:=blkOld HGn hb
    clear hb
    refine hK.out _ _ ?_ (fun hHeld=>?_)
    ·exact hSn
    clear hK K
    try simp only[Act.put,pS]
    refine tkW 10 (some 11) (v:=?_) rfl ?_ ?_
    rotate_left
    ·intro u hSu;have hSv:=blkOld H0.out.get0 hSu;have ha:=(show u.cell? ⟨w.heap.size,13,none⟩=some (.slice p.T s.txns.length p.tc)from(by rw[blkCell hSv];rfl));have hb:=(show u.cell? ⟨w.heap.size,14,none⟩=some (.int .i64 s.next)from(by rw[blkCell hSv];rfl));clear hSu hSv;go_simp;(try with_reducible rfl)
    try simp only[Act.put,pS]
    refine tkW 11 (some 22) (v:=?_) rfl ?_ ?_
    rotate_left
    ·intro u hSu;have hSv:=blkOld H0.out.get0 hSu;have ha:=(show u.cell? ⟨w.heap.size,13,none⟩=some (.slice p.T s.txns.length p.tc)from(by rw[blkCell hSv];rfl));have hb:=(show u.cell? ⟨w.heap.size,14,none⟩=some (.int .i64 s.next)from(by rw[blkCell hSv];rfl));clear hSu hSv;go_simp;(try with_reducible rfl)
    try simp only[Act.put,pS]
    refine tkW 12 (some 23) (v:=?_) rfl ?_ ?_
    rotate_left
    ·intro u hSu;have hSv:=blkOld H0.out.get0 hSu;have ha:=(show u.cell? ⟨w.heap.size,13,none⟩=some (.slice p.T s.txns.length p.tc)from(by rw[blkCell hSv];rfl));have hb:=(show u.cell? ⟨w.heap.size,14,none⟩=some (.int .i64 s.next)from(by rw[blkCell hSv];rfl));clear hSu hSv;go_simp;(try with_reducible rfl)
    try simp only[Act.put,pS]
    refine tkW 13 (some 24) (v:=?_) rfl ?_ ?_
    rotate_left
    ·intro u hSu;have hSv:=blkOld H0.out.get0 hSu;have ha:=(show u.cell? ⟨w.heap.size,13,none⟩=some (.slice p.T s.txns.length p.tc)from(by rw[blkCell hSv];rfl));have hb:=(show u.cell? ⟨w.heap.size,14,none⟩=some (.int .i64 s.next)from(by rw[blkCell hSv];rfl));clear hSu hSv;go_simp;(try with_reducible rfl)
    try simp only[Act.put,pS]
    refine rdH 15 none rfl (fun K hK=>?_)
    refine wantedIf (by rfl) ?_
    refine wp_store_whole 31 (.tmp 4) (.tmp 22) rfl v1.heap.size #[l2.from_,l2.n,l2.end_,l2.safe,l2.tail] _ _ rfl rfl HGn Kr Kr Kr ?_
    have ZF:=rowB (g:=v1.heap.size) Z1.size Z3 #[l2.from_,l2.n,l2.end_,l2.safe,l2.tail]
    have HG4:=setRow_heap _ _ _ #[l2.from_,l2.n,l2.end_,l2.safe,l2.tail] _ _ HGn
    clear hSn
    have hSn:=ZF
    refine hK.out _ _ ?_ (fun hHeld=>?_)
    ·exact hSn
    clear hK K
    try simp only[Act.put,pS]
    refine tkW 16 (some 5) (v:=?_) rfl ?_ ?_
    rotate_left
    ·intro u hSu;have hSv:=blkOld H0.out.get0 hSu;have ha:=(show u.cell? ⟨w.heap.size,13,none⟩=some (.slice p.T s.txns.length p.tc)from(by rw[blkCell hSv];rfl));have hb:=(show u.cell? ⟨w.heap.size,14,none⟩=some (.int .i64 s.next)from(by rw[blkCell hSv];rfl));clear hSu hSv;go_simp;(try with_reducible rfl)
    try simp only[Act.put,pS]
    refine tkW 17 (some 6) (v:=?_) rfl ?_ ?_
    rotate_left
    ·intro u hSu;have hSv:=blkOld H0.out.get0 hSu;have ha:=(show u.cell? ⟨w.heap.size,13,none⟩=some (.slice p.T s.txns.length p.tc)from(by rw[blkCell hSv];rfl));have hb:=(show u.cell? ⟨w.heap.size,14,none⟩=some (.int .i64 s.next)from(by rw[blkCell hSv];rfl));clear hSu hSv;go_simp;(try with_reducible rfl)
    try simp only[Act.put,pS]
    refine wpAnyH_done Kr ?_ _
    clear hHeld hSn
    go_wp2_with fail
    go_meet
    case rel=>exact⟨_,rfl,rfl,rfl,HG4,Z1.size,ZF⟩
  ·
   go_simp
   have hbA:=allocB W0.drew (.cells #[(),(),(),(),""] 31);have Z1:=joinB Z0 hbA;have HGn:=heap_alloc_new W0.drew (.cells #[(),(),(),(),""] 31);try clear hSn
   have hSn:=Z1
   refine hK.out _ _ ?_ (fun hHeld=>?_)
   ·exact hSn
   clear hK K
   try simp only[Act.put,pS]
   refine rdH 5 (some 17) rfl (fun K hK=>?_)
   go_simp
   refine(rdirty_any s p fs HF.out _ (HP0.out.below Z1)).mono ?_;rintro e v1 ⟨DA,dc,rfl,hdr,hb⟩;have Z2:=joinB Z1 hb;try clear hSn
   have hSn:=Z2
   have HGn:=blkOld HGn hb
   clear hb
   refine hK.out _ _ ?_ (fun hHeld=>?_)
   ·exact hSn
   clear hK K
   try simp only[Act.put,pS]
   refine tkW 8 (some 20) (v:=?_) rfl ?_ ?_
   rotate_left
   ·intro u hSu;have hSv:=blkOld H0.out.get0 hSu;have ha:=(show u.cell? ⟨w.heap.size,13,none⟩=some (.slice p.T s.txns.length p.tc)from(by rw[blkCell hSv];rfl));have hb:=(show u.cell? ⟨w.heap.size,14,none⟩=some (.int .i64 s.next)from(by rw[blkCell hSv];rfl));clear hSu hSv;go_simp;(try with_reducible rfl)
   try simp only[Act.put,pS]
   refine rdH 9 (some 21) rfl (fun K hK=>?_)
   go_simp
   refine(HAP.out DA dc _ ⟨(HP0.out.below Z2).st.tx,hdr,⟨by have:=HTS.out;show s.txns.length≤_;omega,by have:=HDS.out;show(dirL fs).length≤_;omega⟩⟩).mono ?_;rintro e v2 ⟨rfl,hb⟩;have Z3:=joinB Z2 hb;clear hSn;have hSn:=Z3
   have HGn:=blkOld HGn hb
   clear hb
   refine hK.out _ _ ?_ (fun hHeld=>?_)
   ·exact hSn
   clear hK K
   try simp only[Act.put,pS]
   refine tkW 10 (some 11) (v:=?_) rfl ?_ ?_
   rotate_left
   ·intro u hSu;have hSv:=blkOld H0.out.get0 hSu;have ha:=(show u.cell? ⟨w.heap.size,13,none⟩=some (.slice p.T s.txns.length p.tc)from(by rw[blkCell hSv];rfl));have hb:=(show u.cell? ⟨w.heap.size,14,none⟩=some (.int .i64 s.next)from(by rw[blkCell hSv];rfl));clear hSu hSv;go_simp;(try with_reducible rfl)
   try simp only[Act.put,pS]
   refine tkW 11 (some 22) (v:=?_) rfl ?_ ?_
   rotate_left
   ·intro u hSu;have hSv:=blkOld H0.out.get0 hSu;have ha:=(show u.cell? ⟨w.heap.size,13,none⟩=some (.slice p.T s.txns.length p.tc)from(by rw[blkCell hSv];rfl));have hb:=(show u.cell? ⟨w.heap.size,14,none⟩=some (.int .i64 s.next)from(by rw[blkCell hSv];rfl));clear hSu hSv;go_simp;(try with_reducible rfl)
   try simp only[Act.put,pS]
   refine tkW 12 (some 23) (v:=?_) rfl ?_ ?_
   rotate_left
   ·intro u hSu;have hSv:=blkOld H0.out.get0 hSu;have ha:=(show u.cell? ⟨w.heap.size,13,none⟩=some (.slice p.T s.txns.length p.tc)from(by rw[blkCell hSv];rfl));have hb:=(show u.cell? ⟨w.heap.size,14,none⟩=some (.int .i64 s.next)from(by rw[blkCell hSv];rfl));clear hSu hSv;go_simp;(try with_reducible rfl)
   try simp only[Act.put,pS]
   refine tkW 13 (some 24) (v:=?_) rfl ?_ ?_
   rotate_left
   ·intro u hSu;have hSv:=blkOld H0.out.get0 hSu;have ha:=(show u.cell? ⟨w.heap.size,13,none⟩=some (.slice p.T s.txns.length p.tc)from(by rw[blkCell hSv];rfl));have hb:=(show u.cell? ⟨w.heap.size,14,none⟩=some (.int .i64 s.next)from(by rw[blkCell hSv];rfl));clear hSu hSv;go_simp;(try with_reducible rfl)
   try simp only[Act.put,pS]
   refine rdH 15 none rfl (fun K hK=>?_)
   refine wantedIf (by rfl) ?_
   refine wp_store_whole 31 (.tmp 4) (.tmp 22) rfl W0.drew.heap.size #[l2.from_,l2.n,l2.end_,l2.safe,l2.tail] _ _ rfl rfl HGn Kr Kr Kr ?_
   have ZF:=rowB (g:=W0.drew.heap.size) (by show W0.heap.size≤W0.heap.size;omega) Z3 #[l2.from_,l2.n,l2.end_,l2.safe,l2.tail]
   have HG4:=setRow_heap _ _ _ #[l2.from_,l2.n,l2.end_,l2.safe,l2.tail] _ _ HGn
   clear hSn
   have hSn:=ZF
   refine hK.out _ _ ?_ (fun hHeld=>?_)
   ·exact hSn
   clear hK K
   try simp only[Act.put,pS]
   refine tkW 16 (some 5) (v:=?_) rfl ?_ ?_
   rotate_left
   ·intro u hSu;have hSv:=blkOld H0.out.get0 hSu;have ha:=(show u.cell? ⟨w.heap.size,13,none⟩=some (.slice p.T s.txns.length p.tc)from(by rw[blkCell hSv];rfl));have hb:=(show u.cell? ⟨w.heap.size,14,none⟩=some (.int .i64 s.next)from(by rw[blkCell hSv];rfl));clear hSu hSv;go_simp;(try with_reducible rfl)
   try simp only[Act.put,pS]
   refine tkW 17 (some 6) (v:=?_) rfl ?_ ?_
   rotate_left
   ·intro u hSu;have hSv:=blkOld H0.out.get0 hSu;have ha:=(show u.cell? ⟨w.heap.size,13,none⟩=some (.slice p.T s.txns.length p.tc)from(by rw[blkCell hSv];rfl));have hb:=(show u.cell? ⟨w.heap.size,14,none⟩=some (.int .i64 s.next)from(by rw[blkCell hSv];rfl));clear hSu hSv;go_simp;(try with_reducible rfl)
   try simp only[Act.put,pS]
   refine wpAnyH_done Kr ?_ _
   clear hHeld hSn
   go_wp2_with fail
   go_meet
   case rel=>exact⟨_,rfl,rfl,rfl,HG4,Nat.le_refl _,ZF⟩
 case rest=>
  obtain⟨g,rfl,rfl,rfl,hg,hgw,hbc⟩:=hcut
  obtain⟨w1,rfl⟩:∃ wm:World,wm=wc:=⟨_,rfl⟩
  have H1:=Hq (H0.out.step hbc)
  have HG:=Hq hg
  have HP1:=Hq (HP0.out.below hbc)
  have hlt:w.heap.size+1<g:=Nat.lt_of_lt_of_le (H0.out.lt (i:=1) (by simp)) hgw
  clear hg hgw hbc H0 HP0 HAP
  by_cases h2:e2=0
  ·have h2b:(e2 != 0)=false:=by rw[h2];rfl
   have HX2':=Hq (HX2.out h2)
   have HX3':=Hq (HX3.out h2)
   clear HX1 HX2 HX3 h2
   go_upto_region 5 with(first
    |(with_reducible refine listLoad Kr 31 (.tmp 4) rfl g rfl #[l2.from_,l2.n,l2.end_,l2.safe,l2.tail] _ HG.out _ Tryz.underlying31 Kr Kr ?_)
    |(with_reducible refine listPut Kr 31 (.tmp 30) (.tmp 29) rfl w.heap.size 6 #[l2.from_,l2.n,l2.end_,l2.safe,l2.tail] (stA s p) (stA {s with log:=l2} p) _ rfl rfl H1.out.get0 Kr Kr Kr Kr ?_))
   have H2:=Hq (show BxL w.heap.size w [((stA {s with log:=l2} p),37),(#[(),(),(),"s",(),false,(),(),(),(),"","s",(),"s",()],37)] (w1.setRow w.heap.size (stA {s with log:=l2} p))from H1.out.row 0 (stA {s with log:=l2} p) _ rfl)
   have HP2:=Hq ((HP1.out.other (t:=37) H1.out.get0 (by decide) (by decide) (by decide) (stA {s with log:=l2} p)).log l2)
   generalize w1.setRow w.heap.size (stA {s with log:=l2} p)=w2 at H2 HP2 ⊢
   clear H1 HP1 HG
   go_upto_region 6 with(first
    |(with_reducible refine listPart Kr 29 (.tmp 32) rfl w.heap.size 3 rfl #[.slice p.A s.disk.sectors.length p.c,s.disk.left,s.disk.down] (stA {s with log:=l2} p) _ H2.out.get0 Kr _ Tryz.underlying29 Kr Kr ?_)
    |(with_reducible refine listPart Kr 31 (.tmp 34) rfl w.heap.size 6 rfl #[l2.from_,l2.n,l2.end_,l2.safe,l2.tail] (stA {s with log:=l2} p) _ H2.out.get0 Kr _ Tryz.underlying31 Kr Kr ?_)
    |(go_at_call 34;(refine(HFO.out _ _ _ HP2.out.st.dk HP2.out.st.dt).mono ?_);rintro e w3 ⟨A3,c3,rfl,hr3,ht3,hb3⟩;have hgA:=show((w3.alloc (.cells #["s",(),false] 29)).alloc (.cells #[(),(),(),(),""] 31)).heap[w3.heap.size]? =some (.cells #["s",(),false] 29 (0,0))from blkOld (heap_alloc_new w3 _) (allocB _ _);have hgB:=show(((w3.alloc (.cells #["s",(),false] 29)).alloc (.cells #[(),(),(),(),""] 31)).setRow w3.heap.size #[.slice A3 d3.sectors.length c3,d3.left,d3.down]).heap[w3.heap.size+1]? =some (.cells #[(),(),(),(),""] 31 (0,0))from(heap_setRow_other _ _ #[.slice A3 d3.sectors.length c3,d3.left,d3.down] _ (by omega)).trans (by have:=heap_alloc_new (w3.alloc (.cells #["s",(),false] 29)) (.cells #[(),(),(),(),""] 31);simpa using this))
    |(with_reducible refine listStore Kr 29 (.tmp 7) (.tmp 37) rfl w3.heap.size #[.slice A3 d3.sectors.length c3,d3.left,d3.down] _ _ rfl rfl hgA Kr Kr Kr ?_)
    |(with_reducible refine listStore Kr 31 (.tmp 8) (.tmp 38) rfl (w3.heap.size+1) #[l3.from_,l3.n,l3.end_,l3.safe,l3.tail] _ _ rfl rfl hgB Kr Kr Kr ?_))
   have hr3':NewT 0 w3 9 A3:=ht3.elim (fun e=>by rw[e];exact HP2.out.st.dt.below hb3) (fun e=>e.mono (Nat.zero_le _))
   have hbz:Below w3.heap.size w3 ((((w3.alloc (.cells #["s",(),false] 29)).alloc (.cells #[(),(),(),(),""] 31)).setRow w3.heap.size #[.slice A3 d3.sectors.length c3,d3.left,d3.down]).setRow (w3.heap.size+1) #[l3.from_,l3.n,l3.end_,l3.safe,l3.tail]):=rowB (by omega) (rowB (Nat.le_refl _) (joinB (allocB w3 (.cells #["s",(),false] 29)) (allocB _ (.cells #[(),(),(),(),""] 31))) #[.slice A3 d3.sectors.length c3,d3.left,d3.down]) #[l3.from_,l3.n,l3.end_,l3.safe,l3.tail]
   have H3:=Hq (H2.out.step (joinB hb3 hbz))
   have HG8:=Hq (setRow_heap _ _ _ #[l3.from_,l3.n,l3.end_,l3.safe,l3.tail] _ _ hgB)
   have HG7:=Hq ((heap_setRow_other _ (w3.heap.size+1) #[l3.from_,l3.n,l3.end_,l3.safe,l3.tail] w3.heap.size (by omega)).trans (setRow_heap _ _ _ #[.slice A3 d3.sectors.length c3,d3.left,d3.down] _ _ hgA))
   have HP3:=Hq (HP2.out.disk (joinB hb3 hbz) l3 (hr3.below hbz) (hr3'.below hbz))
   have hlt7:w.heap.size+1<w3.heap.size:=Nat.lt_of_lt_of_le (H2.out.lt (i:=1) (by simp)) hb3.size
   obtain⟨g7,hg7⟩:∃ g,g=w3.heap.size:=⟨_,rfl⟩
   rw[← hg7]at H3 HG7 HG8 HP3 hlt7
   rw[← hg7]
   generalize (((w3.alloc (.cells #["s",(),false] 29)).alloc (.cells #[(),(),(),(),""] 31)).setRow g7 #[.slice A3 d3.sectors.length c3,d3.left,d3.down]).setRow (g7+1) #[l3.from_,l3.n,l3.end_,l3.safe,l3.tail]=w4 at H3 HG7 HG8 HP3 ⊢
   clear hg7 hgA hgB hbz hr3 hr3' ht3 hb3 H2 HP2 HFO
   try simp only[Act.put]
   go_upto_region 8 with(first
    |(with_reducible refine listLoad Kr 29 (.tmp 7) rfl g7 rfl #[.slice A3 d3.sectors.length c3,d3.left,d3.down] _ HG7.out _ Tryz.underlying29 Kr Kr ?_)
    |(with_reducible refine listPut Kr 29 (.tmp 41) (.tmp 40) rfl w.heap.size 3 #[.slice A3 d3.sectors.length c3,d3.left,d3.down] (stA {s with log:=l2} p) (stA {s with disk:=d3,log:=l2} {p with A:=A3,c:=c3}) _ rfl rfl H3.out.get0 Kr Kr Kr Kr ?_)
    |(with_reducible refine listLoad Kr 31 (.tmp 8) rfl (g7+1) rfl #[l3.from_,l3.n,l3.end_,l3.safe,l3.tail] _ ((heap_setRow_other _ _ (stA {s with disk:=d3,log:=l2} {p with A:=A3,c:=c3}) _ (show g7+1≠w.heap.size by omega)).trans HG8.out) _ Tryz.underlying31 Kr Kr ?_)
    |(with_reducible refine listPut Kr 31 (.tmp 43) (.tmp 42) rfl w.heap.size 6 #[l3.from_,l3.n,l3.end_,l3.safe,l3.tail] (stA {s with disk:=d3,log:=l2} {p with A:=A3,c:=c3}) (stA {s with disk:=d3,log:=l3} {p with A:=A3,c:=c3}) _ rfl rfl (setRow_heap _ _ _ _ _ _ H3.out.get0) Kr Kr Kr Kr ?_))
   have H4:=Hq (show BxL w.heap.size w [((stA {s with disk:=d3,log:=l3} {p with A:=A3,c:=c3}),37),(#[(),(),(),"s",(),false,(),(),(),(),"","s",(),"s",()],37)] ((w4.setRow w.heap.size (stA {s with disk:=d3,log:=l2} {p with A:=A3,c:=c3})).setRow w.heap.size (stA {s with disk:=d3,log:=l3} {p with A:=A3,c:=c3}))from(H3.out.row 0 (stA {s with disk:=d3,log:=l2} {p with A:=A3,c:=c3}) _ rfl).row 0 (stA {s with disk:=d3,log:=l3} {p with A:=A3,c:=c3}) _ rfl)
   have HP4:=Hq ((HP3.out.other (t:=37) H3.out.get0 (by decide) (by decide) (by decide) (stA {s with disk:=d3,log:=l2} {p with A:=A3,c:=c3})).other (t:=37) (setRow_heap _ _ _ _ _ _ H3.out.get0) (by decide) (by decide) (by decide) (stA {s with disk:=d3,log:=l3} {p with A:=A3,c:=c3}))
   have HG4:=Hq ((heap_setRow_other _ _ (stA {s with disk:=d3,log:=l3} {p with A:=A3,c:=c3}) _ (show g7≠w.heap.size by omega)).trans ((heap_setRow_other _ _ (stA {s with disk:=d3,log:=l2} {p with A:=A3,c:=c3}) _ (show g7≠w.heap.size by omega)).trans HG7.out))
   generalize (w4.setRow w.heap.size (stA {s with disk:=d3,log:=l2} {p with A:=A3,c:=c3})).setRow w.heap.size (stA {s with disk:=d3,log:=l3} {p with A:=A3,c:=c3})=w5 at H4 HP4 HG4 ⊢
   clear H3 HP3 HG7 HG8
   by_cases h3:e3=0
   ·have h3b:(e3 != 0)=false:=by rw[h3];rfl
    have HX:=Hq (HX3'.out h3)
    clear HX2' HX3' h3
    go_upto_region 11 with(first
     |(with_reducible refine listPart Kr 29 (.tmp 49) rfl w.heap.size 3 rfl #[.slice A3 d3.sectors.length c3,d3.left,d3.down] (stA {s with disk:=d3,log:=l3} {p with A:=A3,c:=c3}) _ H4.out.get0 Kr _ Tryz.underlying29 Kr Kr ?_)
     |(go_at_call 35;(refine(HSM.out _ _ _ HP4.out.st.dk).mono ?_);rintro e w6 ⟨A4,c4,rfl,hr5,ht5,hb5⟩;have H5:=Hq (H4.out.step hb5);have HG5:=Hq (blkOld HG4.out hb5);have HP5:=Hq (HP4.out.disk hb5 l3 hr5 (ht5.elim (fun e=>by rw[e];exact HP4.out.st.dt.below hb5) (fun e=>e.mono (Nat.zero_le _))));clear hr5 ht5)
     |(with_reducible refine listStore Kr 29 (.tmp 7) (.tmp 53) rfl g7 #[.slice A4 d4.sectors.length c4,d4.left,d4.down] _ _ rfl rfl HG5.out Kr Kr Kr ?_))
    have H6:=Hq (H5.out.under (M:=g7) (by simp;omega) (rowB (g:=g7) (Nat.le_refl g7) (show Below g7 w6 w6 from⟨rfl,rfl,rfl,Nat.le_refl _,fun _ _=>rfl⟩) #[.slice A4 d4.sectors.length c4,d4.left,d4.down]))
    have HG6:=Hq (setRow_heap _ _ _ #[.slice A4 d4.sectors.length c4,d4.left,d4.down] _ _ HG5.out)
    have HP6:=Hq (HP5.out.other (t:=29) HG5.out (by decide) (by decide) (by decide) #[.slice A4 d4.sectors.length c4,d4.left,d4.down])
    generalize w6.setRow g7 #[.slice A4 d4.sectors.length c4,d4.left,d4.down]=w7 at H6 HG6 HP6 ⊢
    clear H4 HP4 H5 HP5 HG4 HG5 hb5 HSM
    go_upto_region 12 with(first
     |(with_reducible refine listLoad Kr 29 (.tmp 7) rfl g7 rfl #[.slice A4 d4.sectors.length c4,d4.left,d4.down] _ HG6.out _ Tryz.underlying29 Kr Kr ?_)
     |(with_reducible refine listPut Kr 29 (.tmp 56) (.tmp 55) rfl w.heap.size 3 #[.slice A4 d4.sectors.length c4,d4.left,d4.down] (stA {s with disk:=d3,log:=l3} {p with A:=A3,c:=c3}) (stA {s with disk:=d4,log:=l3} {p with A:=A4,c:=c4}) _ rfl rfl H6.out.get0 Kr Kr Kr Kr ?_))
    have H7:=Hq (show BxL w.heap.size w [((stA {s with disk:=d4,log:=l3} {p with A:=A4,c:=c4}),37),(#[(),(),(),"s",(),false,(),(),(),(),"","s",(),"s",()],37)] (w7.setRow w.heap.size (stA {s with disk:=d4,log:=l3} {p with A:=A4,c:=c4}))from H6.out.row 0 (stA {s with disk:=d4,log:=l3} {p with A:=A4,c:=c4}) _ rfl)
    have HP7:=Hq (HP6.out.other (t:=37) H6.out.get0 (by decide) (by decide) (by decide) (stA {s with disk:=d4,log:=l3} {p with A:=A4,c:=c4}))
    generalize w7.setRow w.heap.size (stA {s with disk:=d4,log:=l3} {p with A:=A4,c:=c4})=w8 at H7 HP7 ⊢
    clear H6 HP6 HG6
    go_wp2_with (first|(with_reducible refine listLoad Kr 37 (.tmp 1) rfl w.heap.size rfl (stA {s with disk:=d4,log:=l3} {p with A:=A4,c:=c4}) _ H7.out.get0 _ Tryz.underlying37 Kr Kr ?_)|(with_reducible refine listStore Kr 37 (.tmp 2) (.tmp 57) rfl (w.heap.size+1) (stA {s with disk:=d4,log:=l3} {p with A:=A4,c:=c4}) _ _ rfl rfl H7.out.get1 Kr Kr Kr ?_))
    refine bodyPost_ret (v:=.tuple #[.agg (stA {s with disk:=d4,log:=l3} {p with A:=A4,c:=c4}),e4]) (results_cell2 rfl _ _ rfl (load_whole (setRow_heap _ _ _ _ _ _ H7.out.get1) Tryz.underlying37 Kr Kr) rfl) rfl ?_
    rw[HX.out]
    exact⟨{p with A:=A4,c:=c4},rfl,HP7.out.other (t:=37) H7.out.get1 (by decide) (by decide) (by decide) _,(H7.out.row 1 (stA {s with disk:=d4,log:=l3} {p with A:=A4,c:=c4}) _ rfl).below⟩
   ·have h3b:(e3 != 0)=true:=bne_iff_ne.2 h3
    have HX:=Hq (HX2'.out h3)
    clear HX2' HX3' h3
    go_wp2_with (first|(with_reducible refine listLoad Kr 37 (.tmp 1) rfl w.heap.size rfl (stA {s with disk:=d3,log:=l3} {p with A:=A3,c:=c3}) _ H4.out.get0 _ Tryz.underlying37 Kr Kr ?_)|(with_reducible refine listStore Kr 37 (.tmp 2) (.tmp 46) rfl (w.heap.size+1) (stA {s with disk:=d3,log:=l3} {p with A:=A3,c:=c3}) _ _ rfl rfl H4.out.get1 Kr Kr Kr ?_))
    refine bodyPost_ret (v:=.tuple #[.agg (stA {s with disk:=d3,log:=l3} {p with A:=A3,c:=c3}),e3]) (results_cell2 rfl _ _ rfl (load_whole (setRow_heap _ _ _ _ _ _ H4.out.get1) Tryz.underlying37 Kr Kr) rfl) rfl ?_
    rw[HX.out]
    exact⟨{p with A:=A3,c:=c3},rfl,HP4.out.other (t:=37) H4.out.get1 (by decide) (by decide) (by decide) _,(H4.out.row 1 (stA {s with disk:=d3,log:=l3} {p with A:=A3,c:=c3}) _ rfl).below⟩
  ·have h2b:(e2 != 0)=true:=bne_iff_ne.2 h2
   have HX:=Hq (HX1.out h2)
   clear HX1 HX2 HX3 h2
   go_wp2_with (first|(with_reducible refine listLoad Kr 37 (.tmp 1) rfl w.heap.size rfl (stA s p) _ H1.out.get0 _ Tryz.underlying37 Kr Kr ?_)|(with_reducible refine listStore Kr 37 (.tmp 2) (.tmp 27) rfl (w.heap.size+1) (stA s p) _ _ rfl rfl H1.out.get1 Kr Kr Kr ?_))
   refine bodyPost_ret (v:=.tuple #[.agg (stA s p),e2]) (results_cell2 rfl _ _ rfl (load_whole (setRow_heap _ _ _ _ _ _ H1.out.get1) Tryz.underlying37 Kr Kr) rfl) rfl ?_
   rw[HX.out]
   exact⟨p,rfl,HP1.out.other (t:=37) H1.out.get1 (by decide) (by decide) (by decide) _,(H1.out.row 1 (stA s p) _ rfl).below⟩
end Go.Proofs.YtilakddepaplhaaGreat
