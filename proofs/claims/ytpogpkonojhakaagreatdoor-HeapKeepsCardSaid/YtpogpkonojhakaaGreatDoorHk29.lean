import Derived.Test.YtpogpkonojhakaaGreatDoorHk00
import Derived.Test.YtpogpkonojhakaaGreatDoorHk02
import Derived.Test.YtpogpkonojhakaaGreatDoorHk28
set_option maxRecDepth 100000
set_option maxHeartbeats 16000000
set_option linter.unusedSimpArgs false
namespace Go.Proofs.YtpogpkonojhakaaGreatDoor
open Go.RowKit Sc
structure R5 (M G:Nat) (rec:ByteArray) (last a b:Int) (f:Bool) (u:World):Prop where
 hg:M+4≤G
 b1:u.heap[M+1]? =some (.cells #[rec] 9 (0,0))
 b3:u.heap[M+3]? =some (.cells #[(),()] 43 (0,0))
 b4:u.heap[G]? =some (.cells #[a,b] 43 (0,0))
 b5:u.heap[G+1]? =some (.cells #[last] 3 (0,0))
 b6:u.heap[G+2]? =some (.cells #[f] 4 (0,0))
section
variable {M G : Nat} {rec : ByteArray} {last a b : Int} {f : Bool} {u : World}
theorem R5.below {v:World}(h:R5 M G rec last a b f u)(c:Bw u v):R5 M G rec last a b f v:=
 ⟨h.hg,Ag h.b1 c,Ag h.b3 c,Ag h.b4 c,Ag h.b5 c,Ag h.b6 c⟩
theorem R5.other (h:R5 M G rec last a b f u){g:Nat}{cs:Array Value}(d:u.heap[g]? =some (.cells cs 36 (0,0)))(cs':Array Value):R5 M G rec last a b f (u.setRow g cs'):=by
 have e:∀ {k:Nat} {c0:Array Value} {t:TypeId},u.heap[k]? =some (.cells c0 t (0,0))→t≠36→(u.setRow g cs').heap[k]? =some (.cells c0 t (0,0)):=fun{k c0 t} c i=>by
  refine(Ad _ _ _ _ (fun e=>?_)).trans c;rw[e,d]at c;injection c with c;injection c with _ c;exact i c.symm
 exact⟨h.hg,e h.b1 (by decide),e h.b3 (by decide),e h.b4 (by decide),e h.b5 (by decide),e h.b6 (by decide)⟩
theorem R5.lst (h:R5 M G rec last a b f u)(x:Int):R5 M G rec x a b f (u.setRow (G+1) #[x]):=
 ⟨h.hg,(Ad _ _ _ _ (by have:=h.hg;omega)).trans h.b1,(Ad _ _ _ _ (by have:=h.hg;omega)).trans h.b3,(Ad _ _ _ _ (by have:=h.hg;omega)).trans h.b4,setRow_heap _ _ _ _ _ _ h.b5,(Ad _ _ _ _ (by have:=h.hg;omega)).trans h.b6⟩
theorem R5.at_ (h:R5 M G rec last a b f u)(x y:Int):R5 M G rec last x y f (u.setRow G #[x,y]):=
 ⟨h.hg,(Ad _ _ _ _ (by have:=h.hg;omega)).trans h.b1,(Ad _ _ _ _ (by have:=h.hg;omega)).trans h.b3,setRow_heap _ _ _ _ _ _ h.b4,(Ad _ _ _ _ (by have:=h.hg;omega)).trans h.b5,(Ad _ _ _ _ (by have:=h.hg;omega)).trans h.b6⟩
theorem R5.yes (h:R5 M G rec last a b f u)(x:Bool):R5 M G rec last a b x (u.setRow (G+2) #[x]):=
 ⟨h.hg,(Ad _ _ _ _ (by have:=h.hg;omega)).trans h.b1,(Ad _ _ _ _ (by have:=h.hg;omega)).trans h.b3,(Ad _ _ _ _ (by have:=h.hg;omega)).trans h.b4,(Ad _ _ _ _ (by have:=h.hg;omega)).trans h.b5,setRow_heap _ _ _ _ _ _ h.b6⟩
end
def iJ (M G:Nat)(rec:ByteArray)(pg:Int)(cp:ByteArray)(u:World)(e:Ending)(u':World):Prop:=
 e= .returned (.bool (!decide ((rec.size:Int)≤Jg cp)))∧(if(rec.size:Int)≤Jg cp then R5 M G rec pg pg (Pg.C4 (Ab cp).Ai:Nat) true u' else R5 M G rec pg 0 0 false u')∧Cl M u u'
theorem fJ (M G:Nat)(pg:Int)(d:ByteArray)(k:d.size≤140737488355328)(rec:ByteArray)(last:Int)(u:World)(h:R5 M G rec last 0 0 false u):
 Cq 33 #[pg,d,.pointer (some ⟨G+1,0,none⟩),.pointer (some ⟨M+1,0,none⟩),.pointer (some ⟨G,0,none⟩),.pointer (some ⟨G+2,0,none⟩)] u (iJ M G rec pg d u):=by
 have l:=Hq (fun W=>oK d k W);have x:=Hq (fun W=>oI d k W);have s:=Hq (fun(j:(rec.size:Int)≤Jg d) E F H=>show iJ M G rec pg d u (.returned (.bool false)) E from⟨by rw[decide_eq_true j];rfl,by rw[if_pos j];exact F,H⟩);have t:=Hq (fun(j:¬ (rec.size:Int)≤Jg d) E F H=>show iJ M G rec pg d u (.returned (.bool true)) E from⟨by rw[decide_eq_false j];rfl,by rw[if_neg j];exact F,H⟩);generalize iJ M G rec pg d u=Q at s t ⊢;generalize Jg d=rm at l s t;generalize ((Pg.C4 (Ab d).Ai:Nat):Int)=fn at x s t;have w:=Hq h;have I:=show u.cell? ⟨G+1,0,none⟩=some (.int .i64 last)from by rw[Aa h.b5];rfl
 have J:=Ap h.b5 0;clear h k;go_enter Tryz.func33,Tryz.ntmps33;go_upto_region 2 with fail;have y:u.setCell ⟨G+1,0,none⟩ (.int .i64 pg)=u.setRow (G+1) #[pg]:=setCell_eq_setRow u (G+1) 0 _ _ _ _ w.out.b5;rw[y];have a:=Hq (w.out.lst pg);have m:=Hq ((Cl.of (B:=M) (Below.refl u.heap.size u) (by have:=w.out.hg;have:=Bt w.out.b5;omega)).box (by have:=w.out.hg;omega) w.out.b5 rfl (by decide) #[pg]);generalize u.setRow (G+1) #[pg]=u2 at a m ⊢;clear I J y
 try simp only[Act.put]
 have hSn:Bw u2 u2.drew:=(Below.refl _ u2).drew;refine Gs (S:=(fun v=>Bw u2 v)) (fun f=>?_);generalize u2.drew=v7 at hSn ⊢;refine Aw 0 ?_ (hy:=by intro v g;have n:=show v.cell? ⟨M+1,0,none⟩=some (.string rec)from(by rw[Aa (Ag a.out.b1 g)];rfl);clear g;go_simp;(try with_reducible rfl));refine Aw 2 ?_ (hy:=by intro v g;have n:=show v.cell? ⟨M+1,0,none⟩=some (.string rec)from(by rw[Aa (Ag a.out.b1 g)];rfl);clear g;go_simp;(try with_reducible rfl));refine Aw 3 ?_ (hy:=by intro v g;have n:=show v.cell? ⟨M+1,0,none⟩=some (.string rec)from(by rw[Aa (Ag a.out.b1 g)];rfl);clear g;go_simp;(try with_reducible rfl));refine Cz 1 fun K R=>?_
 go_simp
 (refine(l.out _).mono ?_);rintro e T ⟨rfl,L⟩;have z:=Af hSn L;clear hSn;have hSn:=z;clear z
 refine Ct R (fun f=>?_);clear R K;refine Aw 4 ?_ (hy:=by intro v g;have n:=show v.cell? ⟨M+1,0,none⟩=some (.string rec)from(by rw[Aa (Ag a.out.b1 g)];rfl);clear g;go_simp;(try with_reducible rfl));refine wpAnyH_done Kr ?_ _
 try clear f
 try simp only[Act.put]
 have b:=Hq (a.out.below hSn);have o:=Hq (m.out.trans (Cl.of (B:=M) hSn (by have:=a.out.hg;have:=Bt a.out.b5;omega)));clear hSn a m l
 by_cases j:(rec.size:Int)≤rm
 ·have N:=Hq (s.out j)
  clear s t
  go_upto_region 4 with(first
   |(go_at_call 35;refine(x.out _).mono ?_;rintro e D ⟨rfl,p⟩;have i:=Hq (b.out.below p);have c:=Hq (i.out.at_ pg fn);have q:=show(D.setRow G #[pg,fn]).cell? ⟨G+2,0,none⟩=some (.bool false)from(by rw[Aa c.out.b6];rfl);have O:=Ap c.out.b6 0)
   |with_reducible refine lS #[pg,fn] i.out.b4 ?_)
  have A:(D.setRow G #[pg,fn]).setCell ⟨G+2,0,none⟩ (.bool true)=(D.setRow G #[pg,fn]).setRow (G+2) #[true]:=setCell_eq_setRow _ (G+2) 0 _ _ _ _ c.out.b6;rw[A];have r:=Hq (c.out.yes true);have C:=Hq (((o.out.trans (Cl.of (B:=M) p (by have:=b.out.hg;have:=Bt b.out.b5;omega))).box (by have:=b.out.hg;omega) i.out.b4 rfl (by decide) #[pg,fn]).box (by have:=b.out.hg;omega) c.out.b6 rfl (by decide) #[true]);generalize (D.setRow G #[pg,fn]).setRow (G+2) #[true]=u6 at r C ⊢;clear q O A p b i c o
  try simp only[Act.put]
  have q:=show u6.cell? ⟨G+2,0,none⟩=some (.bool true)from(by rw[Aa r.out.b6];rfl);go_wp2_with fail;exact N.out _ r.out C.out
 ·have P:=Hq (t.out j)
  clear s t;have q:=show T.cell? ⟨G+2,0,none⟩=some (.bool false)from(by rw[Aa b.out.b6];rfl);go_wp2_with fail;exact P.out _ b.out o.out
def Yi (M G:Nat)(rec:ByteArray)(r:Int)(l:List Nat)(m:Nat)(fn:Int)(j:Nat)(W:World):Prop:=
 R5 M G rec (if j=0 then r else((l[j-1]?).getD 0:Nat)) (if j≤m then 0 else((l[m]?).getD 0:Nat)) (if j≤m then 0 else fn) (decide (m<j)) W
structure Ip (w:World) (G:Nat) (s:Tx.St) (p:SP) (rec:ByteArray) (last a b:Int) (f:Bool) (u:World):Prop where
 b0:u.heap[w.heap.size]? =some (.cells (Ak s p) 36 (0,0))
 b2:u.heap[w.heap.size+2]? =some (.cells #[(),(),(),'s',(),false,(),(),(),(),"",'s',(),'s',()] 36 (0,0))
 ins:R5 w.heap.size G rec last a b f u
 cl:Cl w.heap.size w u
section
variable {w : World} {G : Nat} {s : Tx.St} {p : SP} {rec : ByteArray} {last a b : Int} {f : Bool} {u : World}
theorem Ip.below {v:World}(h:Ip w G s p rec last a b f u)(c:Bw u v):Ip w G s p rec last a b f v:=
 ⟨Ag h.b0 c,Ag h.b2 c,h.ins.below c,h.cl.trans (Cl.of c h.cl.bl.size)⟩
theorem Ip.other (h:Ip w G s p rec last a b f u){g:Nat}(d:w.heap.size+2<g){cs:Array Value}(c:u.heap[g]? =some (.cells cs 36 (0,0)))(cs':Array Value):Ip w G s p rec last a b f (u.setRow g cs'):=
 ⟨(Ad _ _ _ _ (by omega)).trans h.b0,(Ad _ _ _ _ (by omega)).trans h.b2,h.ins.other c cs',h.cl.row (by omega) (by omega) _⟩
theorem Ip.at_ (h:Ip w G s p rec last a b f u)(x y:Int):Ip w G s p rec last x y f (u.setRow G #[x,y]):=by
 have c:=h.ins.hg;exact⟨(Ad _ _ _ _ (by omega)).trans h.b0,(Ad _ _ _ _ (by omega)).trans h.b2,h.ins.at_ x y,h.cl.row (by omega) (by omega) _⟩
end
def iK (R:Tx.St→List Fr→Int→Int→Prop)(F:Int→Prop)(s:Tx.St)(p:SP)(fs:List Fr)(w:World)(e:Ending)(w':World):Prop:=
 (∃ (s':Tx.St) (q:SP) (fs':List Fr) (x y:Int),e= .returned (.tuple #[Ah s' q,.agg #[x,y],()])∧Am w' s' q fs'∧R s' fs' x y∧Bw w w')∨
 (∃ z:Int,e= .returned (.tuple #[Ah s p,.agg #[(),()],z])∧Am w' s p fs∧F z∧Bw w w')
theorem bW {N n k:Nat}{ids:List Int}{c:Int}{C:Nat→ByteArray}(s:Tx.St)(p:SP)(fs:List Fr)(hS:SS N n k ids c s fs C){b:ByteArray}{u:Nat→Nat}{V:Nat→Nat×List ByteArray}(hu:SI n C b u V)(l:List Nat)(hl:iI n u V l)
 (t r:Int) (hr:r=((l[0]?).getD 0:Nat)) (rec:ByteArray) (da:1≤rec.size∧rec.size≤400) (m:Nat) (db:m≤l.length) (br:∀ j (hj:j<l.length),j<m→¬ (rec.size:Int)≤Jg (C l[j])) (bs:∀ (hj:m<l.length),(rec.size:Int)≤Jg (C l[m]))
 (fn:Int) (bt:∀ (hj:m<l.length),fn=(Pg.C4 (Ab (C l[m])).Ai:Nat)) (RL:Tx.St→List Fr→Int→Int→Prop) (R:Tx.St→List Fr→Int→Int→Prop) (F:Int→Prop)
 (w:World)
 (bu:m=l.length→∀ s1 q1 fs1,SS N n k ids c s1 fs1 C→∀ W,Bw w W→Am W s1 q1 fs1→Cq 36 #[Ah s1 q1,t,.int .i64 ((l[l.length-1]?).getD 0:Nat)] W (J7 RL W))
 (bw:∀ s1 fs1 (x y:Int),RL s1 fs1 x y→y≠0→y≠20∧F y)
 (bx:∀ s1 q1 fs1 (x y:Int),(m<l.length∧SS N n k ids c s1 fs1 C∧x=((l[m]?).getD 0:Nat)∧y=fn∨RL s1 fs1 x 0∧y=0)→∀ W,Bw w W→Am W s1 q1 fs1→Cq 37 #[Ah s1 q1,t,x,.agg #[.int .i64 1,y,"",rec]] W (nC (fun s2 fs2 z=>z=0∧R s2 fs2 x y) W))
 (h:Am w s p fs):Cq 10 #[Ah s p,t,r,rec] w (iK R F s p fs w):=by
 have bf:=Hq (fun W=>Ph rec W);rw[decide_eq_true da]at bf;have HQ:=Hq (fun(s':Tx.St) (q:SP) (af:List Fr) (x y:Int) w' h1 h2 h3=>show iK R F s p fs w (.returned (.tuple #[Ah s' q,.agg #[x,y],()])) w' from .inl ⟨s',q,af,x,y,rfl,h1,h2,h3⟩);have HE:=Hq (fun(z:Int) w' h1 h2 h3=>show iK R F s p fs w (.returned (.tuple #[Ah s p,.agg #[(),()],z])) w' from .inr ⟨z,rfl,h1,h2,h3⟩);have b8:=Hq bu;have bg:=Hq bw;have X:=Hq bx;unfold J7 at b8;unfold nC at X;generalize iK R F s p fs w=Q at HQ HE ⊢;have HZ:=Hq h;have dc:=Hq hS.whole;have bh:=Hq (fun(G:Nat) (W:World) (hw:Bw w W) (hi:Yi w.heap.size G rec r l m fn 0 W)=>bU (N:=N) (n:=n) (k:=k) (ids:=ids) (c:=c) (C:=C) (B:=w.heap.size) (I:=Yi w.heap.size G rec r l m fn)
  (fun _ _ _ h1 h2=>R5.below h1 h2) (fun _ _ _ _ _ h1 h2=>R5.other h1 h2 _) s p fs hS hu l hl m 33 #[.pointer (some ⟨G+1,0,none⟩),.pointer (some ⟨w.heap.size+1,0,none⟩),.pointer (some ⟨G,0,none⟩),.pointer (some ⟨G+2,0,none⟩)] (enters_of Tryz.func33 Kr rfl)
  (fun j hj bz W' dd _=>by
    have de:=hl.at_ j hj;have dp:=(hS.pi.nm l[j] de.2.1).size;have df:R5 w.heap.size G rec (if j=0 then r else((l[j-1]?).getD 0:Nat)) 0 0 false W':=by
     have h9:=dd;unfold Yi at h9
     rwa[if_pos bz,if_pos bz,decide_eq_false (show ¬ m<j by omega)]at h9
    refine(fJ w.heap.size G (l[j]:Int) (C l[j]) (by omega) rec _ W' df).mono ?_;rintro e W2 ⟨rfl,h1,h2⟩;have c1:(l[j]?).getD 0=l[j]:=by rw[List.getElem?_eq_getElem hj];rfl
    by_cases e:j=m
    ·subst e
     have h3:=bs hj;rw[if_pos h3]at h1;refine⟨by rw[decide_eq_true h3];simp,?_,h2⟩;unfold Yi;rw[if_neg (by omega),if_neg (by omega),if_neg (by omega),decide_eq_true (show j<j+1 by omega),Nat.add_sub_cancel,c1,bt hj];exact h1
    ·have h3:=br j hj (by omega)
     rw[if_neg h3]at h1;refine⟨by rw[decide_eq_false h3];simp[e],?_,h2⟩;unfold Yi;rw[if_neg (by omega),if_pos (by omega),if_pos (by omega),decide_eq_false (show ¬ m<j+1 by omega),Nat.add_sub_cancel,c1];exact h1)
  r hr W (h.below hw) hi hw.size)
 unfold bT at bh;have dq:=hl.pos;clear bu bw bx hr hS hu hl br bs bt;go_enter Tryz.func10,Tryz.ntmps10;go_upto_region 1 with fail;have H0:=yN w (Ak s p) 36 #[rec] 9 #[(),(),(),'s',(),false,(),(),(),(),"",'s',(),'s',()] 36 #[(),()] 43;obtain⟨W0,c6⟩:=E2 H0;rw[← c6]at H0 ⊢;clear c6;have dh:=show W0.cell? ⟨w.heap.size+1,0,none⟩=some (.string rec)from by rw[Aa H0.out.Ar];rfl
 go_upto_region 4 with(first
  |(go_at_call 31;refine(bf.out _).mono ?_;rintro e w1 ⟨rfl,b9⟩)
  |with_reducible refine sN #[(),()] ?_)
 have H1:=Hq (H0.out.step b9);have hG:w.heap.size+4≤w1.heap.size:=H1.out.lt (i:=3) (by simp);obtain⟨c7,c8,ca,cb⟩:=(show _∧_∧_∧_ from⟨H1.out.An,H1.out.Ar,H1.out.Bj,H1.out.g3⟩);have cc:=Hq (Cl.of (B:=w.heap.size) H1.out.below (Nat.le_refl _));obtain⟨G,bj⟩:=ex w1.heap.size;have b9:=Ac w1 (.cells #[(),()] 43);have Y:=Ac (w1.alloc (.cells #[(),()] 43)) (.cells #[r] 3);have ba:=Ac ((w1.alloc (.cells #[(),()] 43)).alloc (.cells #[r] 3)) (.cells #[false] 4);have T:=Af (Af b9 Y) ba;have h4:=Ag (Ag (heap_alloc_new w1 (.cells #[(),()] 43)) Y) ba;have h5:=Ag (heap_alloc_new (w1.alloc (.cells #[(),()] 43)) (.cells #[r] 3)) ba;have h6:=heap_alloc_new ((w1.alloc (.cells #[(),()] 43)).alloc (.cells #[r] 3)) (.cells #[false] 4);rw[show((w1.alloc (.cells #[(),()] 43)).alloc (.cells #[r] 3)).heap.size=w1.heap.size+2 from by simp]at h6;rw[show(w1.alloc (.cells #[(),()] 43)).heap.size=w1.heap.size+1 from by simp]at h5;obtain⟨w2,ag⟩:=ex (((w1.alloc (.cells #[(),()] 43)).alloc (.cells #[r] 3)).alloc (.cells #[false] 4));rw[← ag]at T h4 h5 h6;rw[← bj]at h4 h5 h6 hG;rw[← ag,← bj];have HX:=Hq (show Ip w G s p rec r 0 0 false w2 from⟨Ag c7 T,Ag ca T,⟨hG,Ag c8 T,Ag cb T,h4,h5,h6⟩,cc.out.trans (Cl.of T H1.out.below.size)⟩);have cd:=Hq (show Yi w.heap.size G rec r l m fn 0 w2 from by
  unfold Yi;rw[if_pos rfl,if_pos (Nat.zero_le _),if_pos (Nat.zero_le _),decide_eq_false (Nat.not_lt_zero m)];exact HX.out.ins)
 have cf:=Hq (Af H1.out.below T);clear T h4 h5 h6 b9 Y ba ag bj c7 c8 ca cb cc H0 H1 dh bf
 try simp only[Act.put]
 go_upto_region 5 with(first
  |with_reducible refine lL HX.out.b0 Aq ?_
  |(go_at_call 32;refine(bh.out G _ cf.out cd.out).mono ?_;rintro e w4 ⟨s1,q1,fs1,rfl,cg,cj,M,bb⟩)
  |with_reducible refine sN (Ak s1 q1) ?_)
 have H:=Ac w4 (.cells (Ak s1 q1) 36);have ck:=bb.keep _ _ _ _ HX.out.b0 (by decide) (by decide);have bk:=bb.keep _ _ _ _ HX.out.b2 (by decide) (by decide);have cm:=Hq (HX.out.cl.trans bb);have U:=Hq (cg.below H);have ad:=Hq cj;have Z:=Hq (heap_alloc_new w4 (.cells (Ak s1 q1) 36));have a8:w.heap.size+2<w4.heap.size:=Bt bk;have di:G<w4.heap.size:=by
  unfold Yi at M;exact Bt M.b4
 have ah:=Hq (fun(last a b:Int) (f:Bool) (hi:R5 w.heap.size G rec last a b f w4)=>Ip.below (v:=w4.alloc (.cells (Ak s1 q1) 36)) (show Ip w G s p rec last a b f w4 from⟨ck,bk,hi,cm.out⟩) H);obtain⟨g14,bc⟩:=ex w4.heap.size;obtain⟨w5,bd⟩:=ex (w4.alloc (.cells (Ak s1 q1) 36));rw[← bc,← bd]at Z;rw[← bd]at U ah;rw[← bc]at a8 di;rw[← bd,← bc];clear bd bc H ck bk HX cd cf bh cg cj bb cm
 try simp only[Act.put]
 unfold Yi at M
 by_cases hm:m<l.length
 ·rw[show min (m+1) l.length=m+1 from by omega,if_neg (by omega),if_neg (by omega),if_neg (by omega),decide_eq_true (show m<m+1 by omega),Nat.add_sub_cancel]at M
  have d:=Hq (ah.out _ _ _ _ M);have aa:=Hq (fun(s':Tx.St) (af:List Fr) (hs:SS N n k ids c s' af C)=>show(m<l.length∧SS N n k ids c s' af C∧(((l[m]?).getD 0:Nat):Int)=((l[m]?).getD 0:Nat)∧fn=fn∨RL s' af (((l[m]?).getD 0:Nat):Int) 0∧fn=0)from .inl ⟨hm,hs,rfl,rfl⟩);clear M ah b8 bg HE hm db;generalize (((l[m]?).getD 0:Nat):Int)=x at d aa X;have cn:=show w5.cell? ⟨G+1+1,0,none⟩=some (.bool true)from(by rw[Aa d.out.ins.b6];rfl);have ai:=show w5.cell? ⟨G,0,none⟩=some (.int .i64 x)from(by rw[Aa d.out.ins.b4];rfl);have aj:=show w5.cell? ⟨G,1,none⟩=some (.int .i64 fn)from(by rw[Aa d.out.ins.b4];rfl);have ak:=show w5.cell? ⟨w.heap.size+1,0,none⟩=some (.string rec)from by rw[Aa d.out.ins.b1];rfl
  go_upto_region 9 with(first
   |with_reducible refine lL Z.out Aq ?_
   |(go_at_call 37;refine(X.out _ _ _ _ _ (aa.out s1 fs1 ad.out) _ d.out.cl.bl U.out).mono ?_;rintro e v1 ⟨o,A,bm,y5,rfl,al,⟨rfl,an⟩,H⟩;have J:=Ag Z.out H)
   |with_reducible refine lS (Ak o A) J ?_)
  have a1:=Hq ((d.out.below H).other a8 J (Ak o A));have cp:=Hq (setRow_heap _ _ _ (Ak o A) _ _ J);have cq:=Hq (al.other (t:=36) J (by decide) (by decide) (by decide) (Ak o A));have bn:=Hq an;generalize v1.setRow g14 (Ak o A)=v5 at a1 cp cq ⊢;clear ai aj ak al an H J d Z X U ad
  try simp only[Act.put]
  go_upto_region 11 with fail;have E:Bw v5 v5.drew:=(Below.refl _ v5).drew;have dj:=a1.out.ins.hg;have dk:w.heap.size+3<g14:=by omega
  have hSn:=And.intro (Ag cp.out E) (Ag a1.out.ins.b4 E);have O:=Ag a1.out.b2 E;have ao:=Ag a1.out.ins.b3 E;have aq:=cq.out.below E;have ar:=(a1.out.cl.trans (Cl.of E a1.out.cl.bl.size)).bl;refine Gs (S:=(fun u=>u.heap[g14]? =some (.cells (Ak o A) 36 (0,0))∧u.heap[G]? =some (.cells #[x,fn] 43 (0,0)))) (fun D=>?_);generalize v5.drew=v10 at hSn O ao aq ar ⊢;refine fT 0 Aq ?_;refine fT 1 Od ?_;refine Cz 2 fun K hK=>?_;refine Bh (by rfl) ?_;refine sW (Ak o A) O ?_;have bo:=setRow_heap _ _ _ (Ak o A) _ _ O;have a6:=(Ad _ _ (Ak o A) _ (show w.heap.size+3≠w.heap.size+2 by omega)).trans ao;have bp:=aq.other (t:=36) O (by decide) (by decide) (by decide) (Ak o A);have au:=Fu (g:=w.heap.size+2) (by omega) ar (Ak o A);have L:=And.intro ((Ad _ _ (Ak o A) _ (show g14≠w.heap.size+2 by omega)).trans hSn.1) ((Ad _ _ (Ak o A) _ (show G≠w.heap.size+2 by omega)).trans hSn.2);clear hSn;have hSn:=L;clear L;refine Ct hK (fun D=>?_);clear hK K;refine Cz 3 fun K hK=>?_;refine Bh (by rfl) ?_;refine sW #[x,fn] a6 ?_;have av:=setRow_heap _ _ _ #[x,fn] _ _ a6;have aw:=(Ad _ _ #[x,fn] _ (show w.heap.size+2≠w.heap.size+3 by omega)).trans bo;have ax:=bp.other (t:=43) a6 (by decide) (by decide) (by decide) #[x,fn];have ay:=Fu (g:=w.heap.size+3) (by omega) au #[x,fn];have L:=And.intro ((Ad _ _ #[x,fn] _ (show g14≠w.heap.size+3 by omega)).trans hSn.1) ((Ad _ _ #[x,fn] _ (show G≠w.heap.size+3 by omega)).trans hSn.2);clear hSn;have hSn:=L;clear L;refine Ct hK (fun D=>?_);clear hK K;refine Aw 4 ?_;refine wpAnyH_done Kr ?_ _
  try clear D
  try simp only[Act.put]
  go_wp2_with fail;refine bodyPost_ret (v:=.tuple #[.agg (Ak o A),.agg #[x,fn],()]) (Ex rfl _ _ rfl rfl (Ch aw Aq Kr Kr) (Ch av Od Kr Kr) rfl) rfl ?_;exact HQ.out o A bm _ _ _ ax bn.out ay
 ·obtain rfl:m=l.length:=by omega
  rw[show min (l.length+1) l.length=l.length from by omega,if_neg (show ¬ l.length=0 by omega),if_pos (Nat.le_refl _),if_pos (Nat.le_refl _),decide_eq_false (show ¬ l.length<l.length by omega)]at M;have d:=Hq (ah.out _ _ _ _ M);have HL:=Hq (b8.out rfl s1 q1 fs1 ad.out);clear M ah b8 hm;generalize (((l[l.length-1]?).getD 0:Nat):Int)=lp at d HL;have cn:=show w5.cell? ⟨G+1+1,0,none⟩=some (.bool false)from(by rw[Aa d.out.ins.b6];rfl);have dm:=show w5.cell? ⟨G+1,0,none⟩=some (.int .i64 lp)from by rw[Aa d.out.ins.b5];rfl
  go_upto_region 7 with(first
   |with_reducible refine lL Z.out Aq ?_
   |(go_at_call 36;refine(HL.out _ d.out.cl.bl U.out).mono ?_;rintro e v1 ⟨s2,q2,fs2,x,y,rfl,cr,ct,Y⟩;have az:=Ag Z.out Y;have ae:=Hq ((d.out.below Y).other a8 az (Ak s2 q2));have cu:=show(v1.setRow g14 (Ak s2 q2)).cell? ⟨G,0,none⟩=some (.int .i64 0)from(by rw[Aa ae.out.ins.b4];rfl);have cv:=Ap ae.out.ins.b4 0)
   |with_reducible refine lS (Ak s2 q2) az ?_)
  have cw:(v1.setRow g14 (Ak s2 q2)).setCell ⟨G,0,none⟩ (.int .i64 x)=(v1.setRow g14 (Ak s2 q2)).setRow G #[x,()]:=setCell_eq_setRow _ G 0 _ _ _ _ ae.out.ins.b4;rw[cw];have P:=Hq (ae.out.at_ x 0);have cx:=Hq ((cr.other (t:=36) az (by decide) (by decide) (by decide) (Ak s2 q2)).other (t:=43) ae.out.ins.b4 (by decide) (by decide) (by decide) #[x,()]);have b7:=Hq ((Ad _ _ #[x,()] _ (show g14≠G by omega)).trans (setRow_heap _ _ _ (Ak s2 q2) _ _ az));have bq:=Hq ct;generalize (v1.setRow g14 (Ak s2 q2)).setRow G #[x,()]=w7 at P cx b7 ⊢;clear cw cn dm cu cv cr ct Y az d ae Z U HL
  try simp only[Act.put]
  by_cases hy:y=0
  ·subst hy
   have aa:=Hq (show(l.length<l.length∧SS N n k ids c s2 fs2 C∧x=((l[l.length]?).getD 0:Nat)∧(0:Int)=fn∨RL s2 fs2 x 0∧(0:Int)=0)from .inr ⟨bq.out,rfl⟩);have ai:=show w7.cell? ⟨G,0,none⟩=some (.int .i64 x)from(by rw[Aa P.out.ins.b4];rfl);have aj:=show w7.cell? ⟨G,1,none⟩=some (.int .i64 0)from(by rw[Aa P.out.ins.b4];rfl);have ak:=show w7.cell? ⟨w.heap.size+1,0,none⟩=some (.string rec)from by rw[Aa P.out.ins.b1];rfl
   go_upto_region 9 with(first
    |with_reducible refine lL b7.out Aq ?_
    |(go_at_call 37;refine(X.out _ _ _ _ _ aa.out _ P.out.cl.bl cx.out).mono ?_;rintro e v1 ⟨o,A,bm,y5,rfl,al,⟨rfl,an⟩,H⟩;have J:=Ag b7.out H)
    |with_reducible refine lS (Ak o A) J ?_)
   have d:=Hq ((P.out.below H).other a8 J (Ak o A));have ad:=Hq (setRow_heap _ _ _ (Ak o A) _ _ J);have U:=Hq (al.other (t:=36) J (by decide) (by decide) (by decide) (Ak o A));have bn:=Hq an;generalize v1.setRow g14 (Ak o A)=v5 at d ad U ⊢;clear ai aj ak al an H J P b7 X
   try simp only[Act.put]
   go_upto_region 11 with fail;have E:Bw v5 v5.drew:=(Below.refl _ v5).drew;have dj:=d.out.ins.hg;have dk:w.heap.size+3<g14:=(by omega);have hSn:=And.intro (Ag ad.out E) (Ag d.out.ins.b4 E);have O:=Ag d.out.b2 E;have ao:=Ag d.out.ins.b3 E;have aq:=U.out.below E;have ar:=(d.out.cl.trans (Cl.of E d.out.cl.bl.size)).bl;refine Gs (S:=(fun u=>u.heap[g14]? =some (.cells (Ak o A) 36 (0,0))∧u.heap[G]? =some (.cells #[x,()] 43 (0,0)))) (fun D=>?_);generalize v5.drew=v10 at hSn O ao aq ar ⊢;refine fT 0 Aq ?_;refine fT 1 Od ?_;refine Cz 2 fun K hK=>?_;refine Bh (by rfl) ?_;refine sW (Ak o A) O ?_;have bo:=setRow_heap _ _ _ (Ak o A) _ _ O;have a6:=(Ad _ _ (Ak o A) _ (show w.heap.size+3≠w.heap.size+2 by omega)).trans ao;have bp:=aq.other (t:=36) O (by decide) (by decide) (by decide) (Ak o A);have au:=Fu (g:=w.heap.size+2) (by omega) ar (Ak o A);have L:=And.intro ((Ad _ _ (Ak o A) _ (show g14≠w.heap.size+2 by omega)).trans hSn.1) ((Ad _ _ (Ak o A) _ (show G≠w.heap.size+2 by omega)).trans hSn.2);clear hSn;have hSn:=L;clear L;refine Ct hK (fun D=>?_);clear hK K;refine Cz 3 fun K hK=>?_;refine Bh (by rfl) ?_;refine sW #[x,()] a6 ?_;have av:=setRow_heap _ _ _ #[x,()] _ _ a6;have aw:=(Ad _ _ #[x,()] _ (show w.heap.size+2≠w.heap.size+3 by omega)).trans bo;have ax:=bp.other (t:=43) a6 (by decide) (by decide) (by decide) #[x,()];have ay:=Fu (g:=w.heap.size+3) (by omega) au #[x,()];have L:=And.intro ((Ad _ _ #[x,()] _ (show g14≠w.heap.size+3 by omega)).trans hSn.1) ((Ad _ _ #[x,()] _ (show G≠w.heap.size+3 by omega)).trans hSn.2);clear hSn;have hSn:=L;clear L;refine Ct hK (fun D=>?_);clear hK K;refine Aw 4 ?_;refine wpAnyH_done Kr ?_ _
   try clear D
   try simp only[Act.put]
   go_wp2_with fail;refine bodyPost_ret (v:=.tuple #[.agg (Ak o A),.agg #[x,()],()]) (Ex rfl _ _ rfl rfl (Ch aw Aq Kr Kr) (Ch av Od Kr Kr) rfl) rfl ?_;exact HQ.out o A bm _ _ _ ax bn.out ay
  ·have dr:(y==0)=false:=beq_eq_false_iff_ne.2 hy
   have ds:(y != 0)=true:=bne_iff_ne.2 hy;have HF:=Hq (bg.out _ _ _ _ bq.out hy);have cy:=Hq (fun W=>Ht s p s2 q2 y HF.out.1 W);rw[if_neg hy]at cy;clear hy bg bq X HQ
   go_wp2_with(first
    |with_reducible refine lL P.out.b0 Aq ?_
    |with_reducible refine lL b7.out Aq ?_
    |(go_at_call 38;refine(cy.out _).mono ?_;rintro e w8 ⟨rfl,au⟩;have a7:=Hq (P.out.below au))
    |with_reducible refine lS (Ak s p) a7.out.b2 ?_
    |(with_reducible refine lS #[(),()] ((Ad _ _ _ _ (by omega)).trans a7.out.ins.b3) ?_))
   have cz:=(Ad w8 _ (Ak s p) _ (show w.heap.size+3≠w.heap.size+2 by omega)).trans a7.out.ins.b3;have dn:=setRow_heap _ _ _ (Ak s p) _ _ a7.out.b2;refine bodyPost_ret (v:=.tuple #[.agg (Ak s p),.agg #[(),()],y]) (Ex rfl _ _ rfl rfl (Ch ((Ad _ _ _ _ (show w.heap.size+2≠w.heap.size+3 by omega)).trans dn) Aq Kr Kr) (Ch (setRow_heap _ _ _ _ _ _ cz) Od Kr Kr) rfl) rfl ?_;exact HE.out y _ (((HZ.out.cl dc.out a7.out.cl).other (t:=36) a7.out.b2 (by decide) (by decide) (by decide) _).other (t:=43) cz (by decide) (by decide) (by decide) _) HF.out.2 (Fu (by omega) (Fu (by omega) a7.out.cl.bl _) _)
end Go.Proofs.YtpogpkonojhakaaGreatDoor
