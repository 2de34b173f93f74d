import Derived.Test.YtmldoihahndcgaaGreatDoorHs00
import Derived.Test.YtmldoihahndcgaaGreatDoorHs07
import Derived.Test.YtmldoihahndcgaaGreatDoorHs10
import Derived.Test.YtmldoihahndcgaaGreatDoorHs16
import Derived.Test.YtmldoihahndcgaaGreatDoorHs02
set_option maxRecDepth 100000
set_option maxHeartbeats 16000000
set_option linter.unusedSimpArgs false
namespace Go.Proofs.YtmldoihahndcgaaGreatDoor
open Go.RowKit Sc
theorem dC {fs:List Fr}{a i:Nat}(f:Fr)(h:a≠i):Dc (fs.set a f) i=Dc fs i:=by
 unfold Dc;rw[List.getElem?_set_ne h]
theorem rG {fs:List Fr}{a:Nat}(f:Fr)(h:a<fs.length):Dc (fs.set a f) a=f:=by
 unfold Dc;rw[List.getElem?_set_self h]
 rfl
theorem Wm {n:Nat}(hn:0<n){i:Nat}:∀ (d a:Nat) (fs:List Fr) (j:Nat),a<n→(a+d)%n=i→¬ 0<(Dc fs i).pins→(Dc fs i).mark=false→d<j→Fu n j a fs≠none
 |d,a,fs,0,_,_,_,_,hj=>absurd hj (Nat.not_lt_zero d)
 |d,a,fs,j+1,ha,hd,hp,hm,hj=>by
  unfold Fu
  by_cases e:a=i
  ·subst e
   rw[if_neg hp,if_neg (by rw[hm];decide)]
   simp
  ·cases d with
   |zero=>exact absurd ((Nat.mod_eq_of_lt ha).symm.trans hd) e
   |succ d=>
    have hd2:((a+1)%n+d)%n=i:=by rw[Nat.mod_add_mod,← hd];congr 1;omega
    split
    ·exact Wm hn d _ fs j (Nat.mod_lt _ hn) hd2 hp hm (by omega)
    ·split
     ·exact Wm hn d _ _ j (Nat.mod_lt _ hn) hd2 (by rw[dC _ e];exact hp) (by rw[dC _ e];exact hm) (by omega)
     ·simp
theorem Wn {n:Nat}(hn:0<n){i:Nat}:∀ (d a:Nat) (fs:List Fr) (j:Nat),fs.length=n→a<n→(a+d)%n=i→¬ 0<(Dc fs i).pins→d+n<j→Fu n j a fs≠none
 |d,a,fs,0,_,_,_,_,hj=>absurd hj (Nat.not_lt_zero (d+n))
 |d,a,fs,j+1,hl,ha,hd,hp,hj=>by
  unfold Fu
  by_cases e:a=i
  ·subst e
   rw[if_neg hp]
   split
   ·refine Wm hn (n-1) _ _ j (Nat.mod_lt _ hn) ?_ (by rw[rG _ (by omega)];exact hp) (by rw[rG _ (by omega)]) (by omega)
    rw[Nat.mod_add_mod,show a+1+(n-1)=a+n by omega,Nat.add_mod_right];exact Nat.mod_eq_of_lt ha
   ·simp
  ·cases d with
   |zero=>exact absurd ((Nat.mod_eq_of_lt ha).symm.trans hd) e
   |succ d=>
    have hd2:((a+1)%n+d)%n=i:=by rw[Nat.mod_add_mod,← hd];congr 1;omega
    split
    ·exact Wn hn d _ fs j hl (Nat.mod_lt _ hn) hd2 hp (by omega)
    ·split
     ·exact Wn hn d _ _ j (by rw[List.length_set];exact hl) (Nat.mod_lt _ hn) hd2 (by rw[dC _ e];exact hp) (by omega)
     ·simp
theorem Ta {n:Nat}(hn:0<n):∀ (j a:Nat) (fs:List Fr),a<n→(∀ i,i<n→0<(Dc fs i).pins)→Fu n j a fs=none
 |0,_,_,_,_=>rfl
 |j+1,a,fs,ha,h=>by
  unfold Fu;rw[if_pos (h a ha)];exact Ta hn j _ fs (Nat.mod_lt _ hn) h
theorem Tb {n:Nat}:∀ (j a:Nat) (fs:List Fr) (x:Nat×List Fr),Fu n j a fs=some x→Fu n (j+1) a fs=some x
 |0,_,_,_,h=>by cases h
 |j+1,a,fs,x,h=>by
  unfold Fu at h ⊢
  split at h
  ·rename_i h1
   rw[if_pos h1];exact Tb j _ fs x h
  ·rename_i h1
   rw[if_neg h1]
   split at h
   ·rename_i h2
    rw[if_pos h2];exact Tb j _ _ x h
   ·rename_i h2
    rw[if_neg h2];exact h
theorem jZ {n a:Nat}{fs:List Fr}(d:fs.length=n)(c:a<n):Fu n (2*n+1) a fs=Fu n (2*n) a fs:=by
 have b:0<n:=by omega
 cases h:Fu n (2*n) a fs with
 |some x=>exact Tb _ _ _ _ h
 |none=>
  refine Ta b _ _ _ c fun i e=>Classical.byContradiction fun f=>?_;have g:(a+(i+n-a)%n)%n=i:=by
   rw[Nat.add_mod_mod,show a+(i+n-a)=i+n by omega,Nat.add_mod_right];exact Nat.mod_eq_of_lt e
  exact Wn b _ a fs (2*n) d c g f (by have:=Nat.mod_lt (i+n-a) b;omega) h
def fI (s:Tx.St)(n:Nat)(o:Option (Nat×List Fr))(w:World)(e:Ending)(w':World):Prop:=
 ∃ (x kk:Int) (q:SP),e= .returned (.tuple #[Ag {s with hand:=x} q,kk])∧Bw w w'∧
  ((∃ (k:Nat) (fs':List Fr),o=some (k,fs')∧x=(((k+1)%n:Nat):Int)∧kk=(k:Int)∧Ao w' {s with hand:=x} q fs')∨(o=none∧kk= -1))
theorem Zr {N n B:Nat}(s:Tx.St)(p:SP)(fs:List Fr)(hW:Wf N n B s fs)(w:World)(h:Ao w s p fs):
 Cq 224 #[Ag s p] w (fI s fs.length (Fu fs.length (2*fs.length) (s.hand.toNat%fs.length) fs) w):=by
 have b2:=hW.nf;have b3:=hW.hd;have a1:=h.fn;obtain⟨m,hm⟩:=ex fs.length;obtain⟨A,r⟩:=ex s.hand;have es:s={s with hand:=A}:=by rw[r]
 rw[← jZ rfl (Nat.mod_lt _ (by omega)),← hm,← r];have HR:=Hq (show Fu m (2*m+1) (A.toNat%m) fs=Fu m (2*m+1) (A.toNat%m) fs from rfl);obtain⟨V,hV⟩:=ex (Fu m (2*m+1) (A.toNat%m) fs);rw[← hV];have HV:=Hq hV;have b4:=Hq (fun(x:Int) (q:SP) (a:List Fr) (hl:a.length=m) (k:Nat) (hk:k<m) (f:Fr) W (o:Ao W {s with hand:=x} q a)=>Hd {s with hand:=x} q a (by omega) k (by omega) f W o);have a6:=Hq (fun(k:Nat) (a:List Fr) (q:SP) W (Z:V=some (k,a)) (o:Ao W {s with hand:=(((k+1)%m:Nat):Int)} q a) (hb:Bw w W)=>show fI s m V w (.returned (.tuple #[Ag {s with hand:=(((k+1)%m:Nat):Int)} q,.int .i64 (k:Int)])) W from⟨_,_,q,rfl,hb,.inl ⟨k,a,Z,rfl,rfl,o⟩⟩);have a7:=Hq (fun(x:Int) (q:SP) W (Z:V=none) (hb:Bw w W)=>show fI s m V w (.returned (.tuple #[Ag {s with hand:=x} q,.int .i64 (-1)])) W from⟨x,_,q,rfl,hb,.inr ⟨Z,rfl⟩⟩);have a8:=Hq (show Ao w {s with hand:=A} p fs from es▸h);have aa:=Hq hm;have bo:1≤m∧m≤64:=by omega
 have ae:0≤A∧A≤64:=by omega
 rw[show Ag s p=Ag {s with hand:=A} p from by rw[← es]];generalize fI s m V w=Q at a6 a7 ⊢;have af:=Hq (show p.fn=m from by rw[a1,hm]);clear hW h hV r hm a1 b2 b3 HR es;go_enter Tryz.func224,Tryz.ntmps224;go_upto_region 1 with fail;have H0:=Hp w (Aj {s with hand:=A} p) 36 #[(),(),(),'s',(),false,(),(),(),(),"",'s',(),'s',()] 36;obtain⟨W0,ag⟩:=Ee H0;rw[← ag]at H0 ⊢;clear ag;have b5:=show W0.cell? ⟨w.heap.size,11,none⟩=some (.slice p.F m p.fc)from by rw[Aa H0.out.Ai,← af.out];rfl
 go_upto_region 3 with fail;clear b5;have ah:=Hq (a8.out.below H0.out.below)
 go_loopw [5] (fun i wr=>∃ (k:Nat) (x:Int) (q:SP) (a:List Fr),k≤2*m+1∧i= .int .i64 (k:Int)∧0≤x∧x≤64∧a.length=m∧V=Fu m (2*m+1-k) (x.toNat%m) a∧Ao wr {s with hand:=x} q a∧D6 w.heap.size w [((Aj {s with hand:=x} q),36),(#[(),(),(),'s',(),false,(),(),(),(),"",'s',(),'s',()],36)] wr) (fun i _=>2*m+1-(intOf i).toNat)
 case atStart=>exact⟨0,A,p,fs,by omega,rfl,ae.1,ae.2,aa.out.symm,HV.out,ah.out,H0.out⟩
 case round=>
  obtain⟨k,x,q,a,hk,rfl,r,bp,hl,Z,o,ai⟩:=hrel;have P:=Hq Z;have HP:=Hq o;have C:=Hq ai;have HL:=Hq hl;clear Z o ai a8 H0 ah HV af aa;have bq:(0:Int)≤(k:Int):=by omega
  have br:(0:Int)<(m:Int):=by omega
  have bs:IntKind.i64.wrap (2*(m:Int))=2*(m:Int):=IntWalk.i64_in _ (by omega);have bt:IntKind.i64.wrap (2*(m:Int)+1)=2*(m:Int)+1:=IntWalk.i64_in _ (by omega);have bu:IntKind.i64.wrap ((k:Int)+1)=(k:Int)+1:=IntWalk.i64_in _ (by omega)
  by_cases bw:k<2*m+1
  ·have b6:(k:Int)<2*(m:Int)+1:=by omega
   have D:¬ (m:Int)=0:=(by omega);have u:((m:Int)==0)=false:=beq_eq_false_iff_ne.2 D;obtain⟨b,E⟩:=ex (x.toNat%m:Nat);have b7:b<m:=(by rw[E];exact Nat.mod_lt _ (by omega));have b8:Int.tmod x (m:Int)=(b:Int):=(by rw[Int.tmod_eq_emod_of_nonneg r,E,Int.natCast_emod,Int.toNat_of_nonneg r]);have b9:IntKind.i64.wrap (b:Int)=(b:Int):=IntWalk.i64_in _ (by omega);have G:=Hq (show V=Fu m (2*m+1-k) b a from by rw[E];exact P.out);clear E P;have v:=show wr.cell? ⟨w.heap.size,12,none⟩=some (.int .i64 x)from(by rw[Aa C.out.Ai];rfl);go_upto_region 6 with fail;have H:b<a.length:=(by have:=HL.out;omega);obtain⟨fb,fo,aj,ba,bb,j⟩:=Bu Dh HP.out.fr H;have ak:=Hq (fun(o:0<a[b].pins)=>show V=Fu m (2*m+1-(k+1)) ((b+1)%m) a from by
    rw[G.out,show 2*m+1-k=(2*m+1-(k+1))+1 by omega];exact qI H o)
   have an:=Hq (fun(o:¬ 0<a[b].pins) (d:a[b].mark=true)=>show V=Fu m (2*m+1-(k+1)) ((b+1)%m) (a.set b {a[b]with mark:=false})from by
    rw[G.out,show 2*m+1-k=(2*m+1-(k+1))+1 by omega];exact nX H o d)
   have ao:=Hq (fun(o:¬ 0<a[b].pins) (d:a[b].mark=false)=>show V=some (b,a)from by
    rw[G.out,show 2*m+1-k=(2*m+1-(k+1))+1 by omega];exact qJ H o d)
   obtain⟨f,aq⟩:=ex (a[b]);rw[← aq]at j ak an ao;have ar:=Hq (show wr.rangeAt fb (fo+b*5) (Ib f)from j);have au:=show wr.cell? ⟨w.heap.size,11,none⟩=some (.slice (some ⟨fb,fo,none⟩) m q.fc)from by
    have I:=HP.out.fn;have c:=HL.out;rw[Aa C.out.Ai,← aj,show m=q.fn from by rw[I,c]];rfl
   have av:=HP.out.ft.lt;have bx:(0:Int)≤(b:Int):=(by omega);have bz:(b:Int)<(m:Int):=(by omega);clear j ba bb aj aq b8 b9 v u D G
   go_upto_region 7 with(first
    |(refine Cw Kr fun K hK=>wp_load_mid 116 (.tmp 32) rfl fb (fo+b*5) rfl (Ib f) _ ar.out Fw Kr Kr (hK _ _ ?_))
    |with_reducible refine sN (Er f) ?_)
   have R:=Ab wr (.cells (Er f) 116);have H5:=Hq (C.out.step R);have S:=Hq (heap_alloc_new wr (.cells (Er f) 116));have T:=Hq (HP.out.below R);have aw:w.heap.size+1<wr.heap.size:=C.out.lt (i:=1) (by simp);obtain⟨g,hg⟩:=ex wr.heap.size;obtain⟨w5,J⟩:=ex (wr.alloc (.cells (Er f) 116));rw[← hg,← J]at S;rw[← J]at H5 T;rw[← J,← hg];rw[← hg]at aw;have bc:=Hq (show ∀ ad,q.F=some ad→ad.block≠g from fun ad e=>by have:=av ad e;omega);clear J hg R ar au av C HP
   try simp only[Act.put]
   obtain⟨c,L⟩:=ex ((b+1)%m:Nat);have bd:c<m:=(by rw[L];exact Nat.mod_lt _ (by omega));have bf:IntKind.i64.wrap ((b:Int)+1)=(b:Int)+1:=IntWalk.i64_in _ (by omega);have bg:Int.tmod ((b:Int)+1) (m:Int)=(c:Int):=(by rw[L];exact Int.tmod_eq_emod_of_nonneg (by omega));have ax:IntKind.i64.wrap (c:Int)=(c:Int):=IntWalk.i64_in _ (by omega);have u:((m:Int)==0)=false:=beq_eq_false_iff_ne.2 (by omega);have D:¬ (m:Int)=0:=(by omega);have U:=Hq L;have ay:=Hq (show c%m=c from Nat.mod_eq_of_lt bd);have v:=show w5.cell? ⟨w.heap.size,12,none⟩=some (.int .i64 x)from(by rw[Aa H5.out.Ai];rfl);have az:=Ap H5.out.Ai 12;clear L;go_upto_region 8 with fail;have O:=Hq (show D6 w.heap.size w [((Aj {s with hand:=(c:Int)} q),36),(#[(),(),(),'s',(),false,(),(),(),(),"",'s',(),'s',()],36)] (w5.setCell ⟨w.heap.size,12,none⟩ (.int .i64 (c:Int)))from H5.out.set 0 12 (.int .i64 (c:Int)) _ rfl);have l:=Hq (show(w5.setCell ⟨w.heap.size,12,none⟩ (.int .i64 (c:Int))).heap[g]? =some (.cells (Er f) 116 (0,0))from by rw[Below.heap_setCell _ _ _ _ (by show g≠w.heap.size;omega)];exact S.out);have y:=Hq (show Ao (w5.setCell ⟨w.heap.size,12,none⟩ (.int .i64 (c:Int))) {s with hand:=(c:Int)} q a from by
    have I:=T.out.set H5.out.Ai (by decide) (by decide) (by decide) 12 (.int .i64 (c:Int));exact⟨⟨I.st.dk,I.st.dt,I.st.tx,I.st.tt⟩,I.fn,I.fr,I.ft⟩)
   generalize w5.setCell ⟨w.heap.size,12,none⟩ (.int .i64 (c:Int))=w6 at O l y ⊢;clear v az H5 S T bf bg ax u D
   try simp only[Act.put]
   have bh:=show w6.cell? ⟨g,2,none⟩=some (.int .i64 f.pins)from(by rw[Aa l.out];rfl);have X:=show w6.cell? ⟨g,3,none⟩=some (.bool f.mark)from by rw[Aa l.out];rfl
   by_cases Y:0<f.pins
   ·have z:=Hq (ak.out Y)
    go_wp2_with fail;go_roundw
    case rel=>exact⟨k+1,(c:Int),q,a,by omega,by go_num,by omega,by omega,HL.out,by rw[Int.toNat_natCast,ay.out,U.out];exact z.out,y.out,O.out⟩
    case measure=>simp[intOf];omega
   ·cases d:f.mark with
    |false=>
     rw[d]at X;have z:=Hq (ao.out Y d);clear d
     go_wp2_with(first|with_reducible refine lL O.out.Ai Ar ?_|with_reducible refine lS (Aj {s with hand:=(c:Int)} q) O.out.Am ?_)
     refine rT2 (.int .i64 (b:Int)) O.out.Am Ar ?_;have hq:=a6.out b a q (w6.setRow (w.heap.size+1) (Aj {s with hand:=(c:Int)} q)) z.out;rw[← U.out]at hq;exact hq (y.out.other (t:=36) O.out.Am (by decide) (by decide) (by decide) _) (O.out.row 1 (Aj {s with hand:=(c:Int)} q) _ rfl).below
    |true=>
     rw[d]at X;have z:=Hq (an.out Y d);have bj:=Ap l.out 3;clear d;go_upto_region 12 with fail;have b0:=Hq (show(w6.setCell ⟨g,3,none⟩ (.bool false)).heap[g]? =some (.cells (Er {f with mark:=false}) 116 (0,0))from by have:=Cb 3 l.out (.bool false);simpa using this);have H7:=Hq (O.out.under (M:=g) (by simp;omega) ((show Below g w6 w6 from⟨rfl,rfl,rfl,Nat.le_refl _,fun _ _=>rfl⟩).setCell (p:=⟨g,3,none⟩) (Nat.le_refl _) (.bool false)));have b1:=Hq (y.out.own l.out bc.out 3 (.bool false));have bk:=Hq (fun W o=>b4.out (c:Int) q a HL.out b b7 {f with mark:=false} W o);generalize w6.setCell ⟨g,3,none⟩ (.bool false)=w7 at b0 H7 b1 ⊢;clear bh X bj O l y
     try simp only[Act.put]
     go_wp2_with(first
      |with_reducible refine lL H7.out.Ai Ar ?_
      |with_reducible refine lL b0.out Fw ?_
      |(go_at_call 169;refine(bk.out _ b1.out).mono ?_;rintro e w8 ⟨q8,rfl,bl,bm⟩;have H8:=Hq (H7.out.step bm))
      |with_reducible refine lS (Aj {s with hand:=(c:Int)} q8) H8.out.Ai ?_)
     go_roundw
     case rel=>exact⟨k+1,(c:Int),q8,a.set b {f with mark:=false},by omega,by go_num,by omega,by omega,by rw[List.length_set];exact HL.out,by rw[Int.toNat_natCast,ay.out,U.out];exact z.out,bl.other (t:=36) H8.out.Ai (by decide) (by decide) (by decide) _,H8.out.row 0 (Aj {s with hand:=(c:Int)} q8) _ rfl⟩
     case measure=>simp[intOf];omega
  ·have b6:¬ (k:Int)<2*(m:Int)+1:=by omega
   have bn:=Hq (show V=none from by rw[P.out,show 2*m+1-k=0 by omega];rfl)
   go_wp2_with(first|with_reducible refine lL C.out.Ai Ar ?_|with_reducible refine lS (Aj {s with hand:=x} q) C.out.Am ?_)
   refine rT2 (.int .i64 (-1)) C.out.Am Ar ?_;exact a7.out x q _ bn.out (C.out.row 1 (Aj {s with hand:=x} q) _ rfl).below
theorem Zs {M:Nat}(d:Lg.Dk)(hd:Tj M d)(A:Option Addr)(c:Nat)(a:Nat)(ba:a+4≤M)(hM:M≤100000)(b:ByteArray)(hb:b.size=512)(w:World)(h:Ca w d A c)(hT:Cp 0 w 9 A):
 Cq 237 #[Cv d A c,.int .i64 (a:Int),b] w (nY (Gy d a b 4) w):=by
 have hlen:=hd.len;have O:=Hq (fun W=>show Cr 294 #[Cv d A c,.int .i64 (a:Int)] W (.bool true) from by
  have h9:=Oh d A c (a:Int) W;rw[decide_eq_true (show Lg.F6 d (a:Int)from⟨by omega,by omega⟩)]at h9;exact h9)
 have ah:=Hq (fun(k:Nat) (B:Option Addr) (cc:Nat) W (hr:Ca W (Gy d a b k).1 B cc)=>show Cq 291 #[Cv (Gy d a b k).1 B cc,.int .i64 ((a:Int)+(k:Int)),.string (Fh b k)] W (D4 (Lg.Bz (Gy d a b k).1 ((a:Int)+(k:Int)) (Fh b k)) B W)from Nh (Gy d a b k).1 (hd.Gy a b k).lb B cc ((a:Int)+(k:Int)) (Fh b k) W hr);have b3:=Hq (fun(k:Nat)=>pX (b:=b) k);have HR:=Hq (show Ca w (Gy d a b 0).1 A c from h);have HT:=Hq hT;dsimp only[Cv]at O;have z:=ah;dsimp only[Cv]at z;have P:=Hq (fun(k:Nat) (hk:k<4) (h0:(Gy d a b k).2=0)=>show Gy d a b (k+1)=Lg.Bz (Gy d a b k).1 ((a:Int)+(k:Int)) (Fh b k)from I5 h0);have R:=Hq (fun(k:Nat) (hk:k≤4) (h0:¬ (Gy d a b k).2=0)=>show Gy d a b 4=Gy d a b k from by have:=Mh h0 (4-k);rwa[show k+(4-k)=4 by omega]at this);have T:=Hq (fun k=>(hd.Gy a b k).len);have U:=Hq (fun(b4:d.down=true)=>show Gy d a b 4=(d,20)from by
  have e1:Gy d a b 1=(d,20):=by
   rw[I5 (k:=0) rfl]
   show Lg.Bz d _ _=_
   unfold Lg.Bz;rw[if_pos b4]
  have h1:=Mh (d:=d) (a:=a) (b:=b) (k:=1) (by rw[e1];exact(by decide:¬ (20:Int)=0)) 3;rw[h1];exact e1)
 have bb:a≤100000:=by omega
 show Cq 237 #[.agg #[.slice A (Gy d a b 0).1.sectors.length c,.int .i64 (Gy d a b 0).1.left,.bool (Gy d a b 0).1.down],.int .i64 (a:Int),b] w _
 have V:=Hq (fun W=>show Cr 294 #[.agg #[.slice A (Gy d a b 0).1.sectors.length c,.int .i64 (Gy d a b 0).1.left,.bool (Gy d a b 0).1.down],.int .i64 (a:Int)] W (.bool true) from O.out W);have X:=Hq (show(Gy d a b 0).1.sectors.length=M from hlen);have Y:=Hq (show(Gy d a b 0).2=0 from rfl);have C:=Hq (show(Gy d a b 0).1=d from rfl);clear O ah h hT hd hlen;generalize hD:Gy d a b=D at HR z V P R T Y U C X ⊢;clear hD;have HQ:=Hq (fun(l:Option Addr) (c2:Nat) (w':World) (h1:Ca w' (D 4).1 l c2) (h2:Cp 0 w' 9 l) (h3:Bw w w')=>show nY (D 4) w (.returned (.tuple #[Cv (D 4).1 l c2,.int .i64 (D 4).2])) w' from⟨l,c2,rfl,h1,h2,h3⟩);generalize nY (D 4) w=Q at HQ ⊢;go_enter Tryz.func237,Tryz.ntmps237;go_upto_region 1 with fail;have m:=Hp w #[.slice A (D 0).1.sectors.length c,.int .i64 (D 0).1.left,.bool (D 0).1.down] 28 #['s',(),false] 28;obtain⟨W0,ai⟩:=Ee m;rw[← ai]at m ⊢;clear ai;have hz:(D 0).1.down=true∨(D 0).1.down=false:=by cases (D 0).1.down<;>simp
 rcases hz with hz|hz
 ·have hc:=show W0.cell? ⟨w.heap.size,2,none⟩=some (.bool true)from by rw[Aa m.out.Ai,← hz];rfl
  have h4:=U.out (by rw[← C.out];exact hz);have HZ:=Hq h4;clear hz h4
  go_wp2_with(first|with_reducible refine lL m.out.Ai Cu ?_|with_reducible refine lS #[.slice A (D 0).1.sectors.length c,.int .i64 (D 0).1.left,.bool (D 0).1.down] m.out.Am ?_)
  refine rT2 (.int .i64 20) m.out.Am Cu ?_;have L:=HQ.out A c (W0.setRow (w.heap.size+1) #[.slice A (D 0).1.sectors.length c,.int .i64 (D 0).1.left,.bool (D 0).1.down]);rw[HZ.out,← C.out]at L;exact L ⟨(HT.out.below m.out.below).Dx (HR.out.below m.out.below).secs m.out.Am (by decide) _,(HR.out.below m.out.below).small⟩ ((HT.out.below m.out.below).row _ _) (m.out.row 1 #[.slice A (D 0).1.sectors.length c,.int .i64 (D 0).1.left,.bool (D 0).1.down] _ rfl).below
 ·have hc:=show W0.cell? ⟨w.heap.size,2,none⟩=some (.bool false)from by rw[Aa m.out.Ai,← hz];rfl
  have b5:((b.size:Int) != 512)=false:=by rw[hb];rfl
  clear hz U;have b6:=X.out;have aj:IntKind.i64.wrap (((D 0).1.sectors.length:Int)-(a:Int))=((D 0).1.sectors.length:Int)-(a:Int):=IntWalk.i64_in _ (by omega);have b7:¬ ((D 0).1.sectors.length:Int)-(a:Int)<4:=by omega
  clear b6
  go_upto_region 5 with(first|with_reducible refine lL m.out.Ai Cu ?_|(go_at_call 294;(with_reducible refine(V.out _).mono ?_);rintro e w1 ⟨rfl,Z⟩;have b8:=show w1.cell? ⟨w.heap.size,0,none⟩=some (.slice A (D 0).1.sectors.length c)from(by rw[Aa (Ae m.out.Ai Z)];rfl)))
  have H1:=Hq (m.out.step Z);have ak:=Hq (HR.out.below H1.out.below);have an:=Hq (HT.out.below H1.out.below);clear hc b5 V m Z b8 aj b7 X;go_wp2_with fail
  go_loopw [8] (fun i wr=>∃ (k:Nat) (l:Option Addr) (c2:Nat),k≤4∧i= .int .i64 (k:Int)∧(D k).2=0∧D6 w.heap.size w [(#[.slice l (D k).1.sectors.length c2,.int .i64 (D k).1.left,.bool (D k).1.down],28),(#['s',(),false],28)] wr∧Ca wr (D k).1 l c2∧Cp 0 wr 9 l) (fun i _=>4-(intOf i).toNat)
  case atStart=>exact⟨0,A,c,by omega,rfl,Y.out,H1.out,ak.out,an.out⟩
  case round=>
   clear ak an H1 HR HT Y C;obtain⟨k,l,c2,hk,rfl,ao,aq,ar,au⟩:=hrel;have q:=Hq aq;have a1:=Hq ar;have E:=Hq au;have av:=Hq ao;clear aq ar au ao;have bc:(0:Int)≤(k:Int):=by omega
   by_cases a6:k<4
   ·have bd:(k:Int)<4:=by omega
    have bf:IntKind.i64.wrap ((k:Int)+1)=(k:Int)+1:=IntWalk.i64_in _ (by omega);have bg:IntKind.i64.wrap ((a:Int)+(k:Int))=(a:Int)+(k:Int):=IntWalk.i64_in _ (by omega);have bh:IntKind.i64.wrap ((k:Int)*128)=(k:Int)*128:=IntWalk.i64_in _ (by omega);have bj:IntKind.i64.wrap (((k:Int)+1)*128)=((k:Int)+1)*128:=IntWalk.i64_in _ (by omega);have bk:(0:Int)≤(k:Int)*128:=(by omega);have a7:(k:Int)*128≤((k:Int)+1)*128:=(by omega);have bl:((k:Int)+1)*128≤(b.size:Int):=(by omega);have bm:(0:Int)≤((k:Int)+1)*128:=(by omega);have bn:(k:Int)≤(k:Int)+1:=(by omega);have bo:((k:Int)+1)*128≤512:=(by omega);have bp:((k:Int)*128).toNat=k*128:=(by omega);have bq:(((k:Int)+1)*128).toNat=(k+1)*128:=(by omega);have hex:=b3.out k;have br:(b.size:Int)=512:=(by omega);have n:=Hq (show ∀ W,Bw wr W→Cq 291 #[.agg #[.slice l (D k).1.sectors.length c2,.int .i64 (D k).1.left,.bool (D k).1.down],.int .i64 ((a:Int)+(k:Int)),.string (Fh b k)] W (D4 (Lg.Bz (D k).1 ((a:Int)+(k:Int)) (Fh b k)) l W)from fun W hb=>z.out k l c2 W (a1.out.below hb));have a8:=Hq (P.out k a6 av.out);have s:=Hq (R.out (k+1) a6);have aa:=Hq (T.out (k+1));rw[a8.out]at s aa;clear z T P R;generalize Lg.Bz (D k).1 ((a:Int)+(k:Int)) (Fh b k)=x at n a8 s aa;obtain⟨d3,e3⟩:=x;simp only at n s aa;clear a6;go_upto_region 8 with fail
    go_cut [9,10] (fun x y wc=>∃ (gt:Nat) (A3:Option Addr) (c3:Nat),x= .pointer (some ⟨gt,0,none⟩)∧y= .int .i64 e3∧wc.heap[gt]? =some (.cells #[.slice A3 d3.sectors.length c3,d3.left,d3.down] 28 (0,0))∧Ca wc d3 A3 c3∧Cp 0 wc 9 A3∧Bw wr wc)
    case first=>
     have Z0:Bw wr wr.drew:=(Below.refl _ wr).drew;refine Gd (S:=(fun u=>Bw wr u)) (fun f=>?_);refine fZ 0 (some 37) (v:=.agg #[.slice l (D k).1.sectors.length c2,.int .i64 (D k).1.left,.bool (D k).1.down]) rfl (yieldsIf_load_mid (by rfl) 28 (.tmp 3) rfl w.heap.size 0 (by rfl) #[.slice l (D k).1.sectors.length c2,.int .i64 (D k).1.left,.bool (D k).1.down].toList _ (fun u hu=>(by intro j v hj;rw[Nat.zero_add,Aa (Ae q.out.Ai hu)];simpa using hj)) Cu Kr Kr) ?_
     try simp only[Act.put,pS]
     refine Au 1 ?_;refine Au 2 ?_;refine Au 3 ?_;refine Au 4 ?_;refine Au 5 ?_;refine Au 6 ?_;refine Au 7 ?_;refine Au 8 ?_;refine Au 9 ?_;refine Au 10 ?_;refine wpAnyH_ready (rs:=[11,15]) Kr (by simp) ?_;refine(AllReadyH.cons (o:={dst:=some 48,op:=_,type:=_,pos:=_,after:=_,guard:=_}) rfl (fun K p=>?_) (AllReadyH.cons (o:={dst:=some 9,op:=_,type:=_,pos:=_,after:=_,guard:=_}) rfl (fun K p=>?_) AllReadyH.nil))
     ·
      go_simp
      refine(n.out _ Z0).mono ?_;rintro e F ⟨A3,c3,rfl,G,ad,t⟩;have H:Cp 0 F 9 A3:=ad.elim (fun e=>by rw[e];exact E.out.below (Ad Z0 t)) (fun e=>e.mono (Nat.zero_le _));have Z2:=Ad Z0 t;try clear hSn
      have hSn:=Z2;refine Bq p (fun f=>?_);clear p K;refine Au 12 ?_;refine Au 13 ?_;refine Au 14 ?_;refine Ch 15 fun K p=>?_
      go_simp
      have HG:=heap_alloc_new F (.cells #['s',(),false] 28);have Z3:=Ad Z2 (Ab F (.cells #['s',(),false] 28));have aw:=G.below (Ab F (.cells #['s',(),false] 28));have ax:=H.below (Ab F (.cells #['s',(),false] 28));clear hSn;have hSn:=Z3;refine Bq p (fun f=>?_);clear p K;refine Ch 16 fun K p=>?_;refine Ay (by rfl) ?_;refine sW #[.slice A3 d3.sectors.length c3,d3.left,d3.down] HG ?_;have Z4:=E7 (g:=F.heap.size) (by have:=Z2.size;omega) Z3 #[.slice A3 d3.sectors.length c3,d3.left,d3.down];have ae:=setRow_heap _ _ _ #[.slice A3 d3.sectors.length c3,d3.left,d3.down] _ _ HG;have af:Ca _ d3 A3 c3:=⟨ax.Dx aw.secs HG (by decide) #[.slice A3 d3.sectors.length c3,d3.left,d3.down],aw.small⟩;have ag:=ax.row F.heap.size #[.slice A3 d3.sectors.length c3,d3.left,d3.down];clear hSn;have hSn:=Z4;refine Bq p (fun f=>?_);clear p K;refine Au 17 ?_;refine wpAnyH_done Kr ?_ _;clear f hSn;go_wp2_with fail;go_meet
      case rel=>exact⟨_,A3,c3,rfl,rfl,ae,af,ag,Z4⟩
     ·
      go_simp
      have Z1:=Ad Z0 (Ab wr.drew (.cells #['s',(),false] 28));have hSn:=Z1;refine Bq p (fun f=>?_);clear p K;refine Ch 11 fun K p=>?_
      go_simp
      refine(n.out _ Z1).mono ?_;rintro e F ⟨A3,c3,rfl,G,ad,t⟩;have H:Cp 0 F 9 A3:=ad.elim (fun e=>by rw[e];exact E.out.below (Ad Z1 t)) (fun e=>e.mono (Nat.zero_le _));have Z2:=Ad Z1 t;try clear hSn
      have hSn:=Z2;have HG:=Bo t;refine Bq p (fun f=>?_);clear p K;refine Au 12 ?_;refine Au 13 ?_;refine Au 14 ?_;refine Ch 16 fun K p=>?_;refine Ay (by rfl) ?_;refine sW #[.slice A3 d3.sectors.length c3,d3.left,d3.down] HG ?_;have Z4:=E7 (g:=wr.drew.heap.size) (by show wr.heap.size≤wr.heap.size;omega) Z2 #[.slice A3 d3.sectors.length c3,d3.left,d3.down];have ae:=setRow_heap _ _ _ #[.slice A3 d3.sectors.length c3,d3.left,d3.down] _ _ HG;have af:Ca _ d3 A3 c3:=⟨H.Dx G.secs HG (by decide) #[.slice A3 d3.sectors.length c3,d3.left,d3.down],G.small⟩;have ag:=H.row wr.drew.heap.size #[.slice A3 d3.sectors.length c3,d3.left,d3.down];clear hSn;have hSn:=Z4;refine Bq p (fun f=>?_);clear p K;refine Au 17 ?_;refine wpAnyH_done Kr ?_ _;clear f hSn;go_wp2_with fail;go_meet
      case rel=>exact⟨_,A3,c3,rfl,rfl,ae,af,ag,Z4⟩
    case rest=>
     obtain⟨gt,A3,c3,rfl,rfl,ay,az,b0,b1⟩:=hcut;obtain⟨w3,rfl⟩:=ex wc;have b2:=Hq ay;have I:=Hq az;have J:=Hq b0;have r:=Hq (q.out.step b1);clear ay az b0 b1 n
     by_cases N:e3=0
     ·have b9:(e3 != 0)=false:=by rw[N];rfl
      have HE:=Hq N;clear N s
      go_wp2_with(first|with_reducible refine lL b2.out Cu ?_|with_reducible refine lS #[.slice A3 d3.sectors.length c3,d3.left,d3.down] r.out.Ai ?_)
      go_roundw
      case rel=>
       have a7:=a8.out;have N:=HE.out;subst N;refine⟨k+1,A3,c3,by omega,by go_num,by rw[a7],?_⟩;rw[a7];exact⟨r.out.row 0 #[.slice A3 d3.sectors.length c3,d3.left,d3.down] _ rfl,⟨J.out.Dx I.out.secs r.out.Ai (by decide) _,I.out.small⟩,J.out.row _ _⟩
      case measure=>simp[intOf];omega
     ·have b9:(e3 != 0)=true:=by rw[bne_iff_ne];exact N
      have HE:=Hq (s.out N);clear N s
      go_wp2_with(first|with_reducible refine lL b2.out Cu ?_|with_reducible refine lS #[.slice A3 d3.sectors.length c3,d3.left,d3.down] r.out.Am ?_)
      refine rT2 e3 r.out.Am Cu ?_;have L:=HQ.out A3 c3 (w3.setRow (w.heap.size+1) #[.slice A3 d3.sectors.length c3,d3.left,d3.down]);rw[HE.out]at L;exact L ⟨J.out.Dx I.out.secs r.out.Am (by decide) _,I.out.small⟩ (J.out.row _ _) (r.out.row 1 #[.slice A3 d3.sectors.length c3,d3.left,d3.down] _ rfl).below
   ·obtain rfl:k=4:=by omega
    go_wp2_with(first|with_reducible refine lL q.out.Ai Cu ?_|with_reducible refine lS #[.slice l (D 4).1.sectors.length c2,.int .i64 (D 4).1.left,.bool (D 4).1.down] q.out.Am ?_)
    refine rT2 () q.out.Am Cu ?_;have L:=HQ.out l c2 (wr.setRow (w.heap.size+1) #[.slice l (D 4).1.sectors.length c2,.int .i64 (D 4).1.left,.bool (D 4).1.down]);rw[av.out]at L;exact L ⟨E.out.Dx a1.out.secs q.out.Am (by decide) _,a1.out.small⟩ (E.out.row _ _) (q.out.row 1 #[.slice l (D 4).1.sectors.length c2,.int .i64 (D 4).1.left,.bool (D 4).1.down] _ rfl).below
def Uv (d:Lg.Dk)(a:Nat):Nat→ByteArray
 |0=>⟨#[]⟩
 |k+1=>Uv d a k++Lg.Ic d ((a:Int)+(k:Int))
theorem Kf {d:Lg.Dk}{a k:Nat}(h:a+k<d.sectors.length):Lg.Ic d ((a:Int)+(k:Int))=d.sectors[a+k]:=by
 unfold Lg.Ic;rw[show((a:Int)+(k:Int)).toNat=a+k by omega,List.getElem?_eq_getElem h]
 rfl
theorem dD {d:Lg.Dk}{a:Nat}(h:a+4≤d.sectors.length):Uv d a 4=F1 d a:=by
 rw[Uh h]
 show(((⟨#[]⟩++Lg.Ic d ((a:Int)+((0:Nat):Int)))++Lg.Ic d ((a:Int)+((1:Nat):Int)))++Lg.Ic d ((a:Int)+((2:Nat):Int)))++Lg.Ic d ((a:Int)+((3:Nat):Int))=_
 rw[Kf (by omega),Kf (by omega),Kf (by omega),Kf (by omega)]
 congr 3
theorem oB {d:Lg.Dk}(b:d.down=false){a k:Nat}(h:a+k<d.sectors.length):Lg.K5 d ((a:Int)+(k:Int))=(Lg.Ic d ((a:Int)+(k:Int)),0):=by
 unfold Lg.K5;rw[if_neg (by rw[b];decide),if_pos (show Lg.F6 d ((a:Int)+(k:Int))from⟨by omega,by omega⟩)]
theorem Wo {M:Nat}(d:Lg.Dk)(v:Tj M d)(m:d.down=false)(A:Option Addr)(c:Nat)(a:Nat)(T:a+4≤M)(U:M≤100000)(w:World)(h:Ca w d A c):
 Cr 220 #[Cv d A c,.int .i64 (a:Int)] w (.tuple #[.string (F1 d a),()]):=by
 have hlen:=v.len;have x:=Hq (fun k (hk:k<4) W (K:Bw w W)=>show Cr 266 #[Cv d A c,.int .i64 ((a:Int)+((k:Nat):Int))] W (.tuple #[.string (Lg.Ic d ((a:Int)+(k:Int))),()]) from by
  have G:=Sy d A c ((a:Int)+(k:Int)) W (h.below K);rw[oB m (by omega)]at G;exact G)
 have y:=Hq (fun k (hk:k<4)=>show(Lg.Ic d ((a:Int)+((k:Nat):Int))).size=128 from by rw[Kf (by omega)];exact v.sz _ (List.getElem_mem _));have j:=Hq (dD (d:=d) (a:=a) (by omega));have H:=Hq (fun k=>show Uv d a (k+1)=Uv d a k++Lg.Ic d ((a:Int)+(k:Int))from rfl);have l:=Hq (show Uv d a 0=⟨#[]⟩from rfl);generalize F1 d a=pg at j ⊢;generalize Uv d a=u at j H l;clear h v m hlen;go_enter Tryz.func220,Tryz.ntmps220;go_upto_region 1 with fail;have n:=aI w #[.slice A d.sectors.length c,d.left,d.down] 28;obtain⟨L,p⟩:=Ee n;rw[← p]at n ⊢;clear p;have N:=Hq n.out.Ai;have q:=Hq n.out.below;clear n;go_wp2_with fail
 go_loopw [1,6,7] (fun t o i wr=>∃ k:Nat,k≤4∧i= .int .i64 k∧o= .string (u k)∧t= .int .i64 (a:Int)∧(u k).size=k*128∧Bw L wr) (fun _ _ i _=>4-(intOf i).toNat)
 case atStart=>exact⟨0,Nat.zero_le _,rfl,by rw[l.out],rfl,by rw[l.out];rfl,Below.refl _ _⟩
 case round=>
  obtain⟨k,hk,rfl,rfl,rfl,B,f⟩:=hrel;have I:=Hq (q.out.trans (f.mono q.out.size));have C:=Hq (Ae N.out f);have O:(0:Int)≤(k:Int):=by omega
  by_cases r:k<4
  ·have P:(k:Int)<4:=by omega
   have Q:IntKind.i64.wrap ((k:Int)+1)=(k:Int)+1:=IntWalk.i64_in _ (by omega);have R:IntKind.i64.wrap ((a:Int)+(k:Int))=(a:Int)+(k:Int):=IntWalk.i64_in _ (by omega);have S:¬ (1099511627776:Int)<(a:Int):=(by omega);have s:=Hq (x.out k r);have D:=y.out k r;have g:=Hq (H.out k);generalize Lg.Ic d ((a:Int)+(k:Int))=z at s D g;have E:=Hq (show(u (k+1)).size=(k+1)*128 from by rw[g.out,ByteArray.size_append];omega);generalize u k=b at B g ⊢;have J:∀ W:World,(Op.stringOp .add b z).run Tryz.prog W= .ok (.string (b++z)) W:=fun W=>run_string_add_sum W _ _ (by omega)
   go_wp2_with(first|with_reducible refine lL C.out Cu ?_|(go_at_call 266;(with_reducible refine(s.out _ I.out).mono ?_);rintro e V ⟨rfl,F⟩))
   go_roundw
   case rel=>exact⟨k+1,by omega,by go_num,by rw[← g.out],rfl,E.out,f.trans (F.mono f.size)⟩
   case measure=>simp[intOf];omega
  ·obtain rfl:k=4:=by omega
   go_wp2_with fail;go_ret2;exact⟨by rw[j.out];rfl,I.out⟩
theorem Wp (d:Lg.Dk)(b:d.down=true)(A:Option Addr)(c:Nat)(a:Nat)(B:a≤100000)(w:World)(h:Ca w d A c):
 Cr 220 #[Cv d A c,.int .i64 (a:Int)] w (.tuple #["",.int .i64 20]):=by
 have l:=Hq (fun W (r:Bw w W)=>show Cr 266 #[Cv d A c,.int .i64 (a:Int)] W (.tuple #["",.int .i64 20]) from by
  have p:=Sy d A c (a:Int) W (h.below r);have e:Lg.K5 d (a:Int)=(⟨#[]⟩,20):=by unfold Lg.K5;rw[if_pos b]
  rw[e]at p;exact p)
 clear h b;go_enter Tryz.func220,Tryz.ntmps220;go_upto_region 1 with fail;have f:=aI w #[.slice A d.sectors.length c,d.left,d.down] 28;obtain⟨s,g⟩:=Ee f;rw[← g]at f ⊢;clear g;have u:=Hq f.out.Ai;have j:=Hq f.out.below;clear f;go_wp2_with fail
 go_loopw [1,6,7] (fun t o i wr=>i= .int .i64 0∧o= .string ⟨#[]⟩∧t= .int .i64 (a:Int)∧Bw s wr) (fun _ _ i _=>4-(intOf i).toNat)
 case atStart=>exact⟨rfl,rfl,rfl,Below.refl _ _⟩
 case round=>
  obtain⟨rfl,rfl,rfl,k⟩:=hrel;have q:=Hq (j.out.trans (k.mono j.out.size));have m:=Hq (Ae u.out k);have v:IntKind.i64.wrap ((a:Int)+0)=(a:Int):=IntWalk.i64_in _ (by omega);have x:IntKind.i64.wrap (a:Int)=(a:Int):=IntWalk.i64_in _ (by omega);have y:(a:Int)+0=(a:Int):=by omega
  have z:¬ (1099511627776:Int)<(a:Int):=by omega
  go_wp2_with(first|with_reducible refine lL m.out Cu ?_|(go_at_call 266;(with_reducible refine(l.out _ q.out).mono ?_);rintro e C ⟨rfl,n⟩))
  go_ret2;exact⟨rfl,Ad q.out n⟩
theorem Tc {M:Nat}(d:Lg.Dk)(e:Tj M d)(A:Option Addr)(c:Nat)(a:Nat)(f:a+4≤M)(g:M≤100000)(w:World)(h:Ca w d A c):
 Cr 220 #[Cv d A c,.int .i64 (a:Int)] w (.tuple #[.string (rD d a).1,.int .i64 (rD d a).2]):=by
 unfold rD
 by_cases b:d.down=true
 ·rw[if_pos b]
  exact Wp d b A c a (by omega) w h
 ·rw[if_neg b]
  exact Wo d e (by simpa using b) A c a f g w h
theorem dE {N n B:Nat}(s:Tx.St)(p:SP)(fs:List Fr)(o:Wf N n B s fs)(pg:Nat)(hp:pg<n)(hN:N≤3000)(w:World)(h:Ca w s.As p.A p.c):
 Cr 170 #[Ag s p,.int .i64 (pg:Int)] w (.tuple #[.string (Es s (pg:Int)).1,.int .i64 (Es s (pg:Int)).2]):=by
 obtain⟨b1,b2⟩:=Uj o (p:=(pg:Int)) (by omega);have hz:=o.zl;have hn:=o.n1;have D:=Hq (fun W=>show Cr 221 #[Ag s p,.int .i64 (pg:Int)] W (.int .i64 ((Ef s (pg:Int):Nat):Int)) from by
  have h9:=R8 s p (pg:Int) (by omega) (by omega) W;rw[← b2]at h9;exact h9)
 have g:=Hq (fun W (Q:Bw w W)=>Tc s.As o.dk p.A p.c (Ef s (pg:Int)) b1 (by omega) W (h.below Q));have G:(s.As.down=true∧rD s.As (Ef s (pg:Int))=(⟨#[]⟩,20)∧Es s (pg:Int)=(⟨#[]⟩,20))∨(s.As.down=false∧rD s.As (Ef s (pg:Int))=(F1 s.As (Ef s (pg:Int)),0)∧(F1 s.As (Ef s (pg:Int))).size≤512∧Es s (pg:Int)=if F1 s.As (Ef s (pg:Int))=I4 then(E6 0,0)else if Hn (F1 s.As (Ef s (pg:Int)))=true then(Mw (F1 s.As (Ef s (pg:Int))),0)else(⟨#[]⟩,19)):=by
  cases q:s.As.down with
  |true=>exact .inl ⟨rfl,by unfold rD;rw[if_pos q],by unfold Es;rw[if_pos q]⟩
  |false=>
   have hlen:=o.dk.len;refine .inr ⟨rfl,by unfold rD;rw[if_neg (by rw[q];decide)],?_,by unfold Es;rw[if_neg (by rw[q];decide)]⟩;rw[Uh (by omega),ByteArray.size_append,ByteArray.size_append,ByteArray.size_append];have h0:=o.dk.sz _ (List.getElem_mem (show Ef s (pg:Int)<s.As.sectors.length by omega));have h1:=o.dk.sz _ (List.getElem_mem (show Ef s (pg:Int)+1<s.As.sectors.length by omega));have h2:=o.dk.sz _ (List.getElem_mem (show Ef s (pg:Int)+2<s.As.sectors.length by omega));have h3:=o.dk.sz _ (List.getElem_mem (show Ef s (pg:Int)+3<s.As.sectors.length by omega));omega
 clear h o b1 b2 hz hn hp hN;generalize Es s (pg:Int)=ld at G ⊢;generalize F1 s.As (Ef s (pg:Int))=pb at G;generalize rD s.As (Ef s (pg:Int))=rd at G g;generalize ((Ef s (pg:Int):Nat):Int)=at_ at D g;obtain⟨C,re⟩:=rd;have E:=Hq G;clear G;simp only at g;go_enter Tryz.func170,Tryz.ntmps170;go_upto_region 1 with fail;have r:=aI w (Aj s p) 36;obtain⟨F,H⟩:=Ee r;rw[← H]at r ⊢;clear H
 go_cut [6,7] (fun x y wc=>x= .string C∧y= .int .i64 re∧Bw F wc)
 case first=>
  have hSn:Bw F F.drew:=(Below.refl _ F).drew;refine Gd (S:=(fun u=>Bw F u)) (fun f=>?_);generalize F.drew=w9 at hSn ⊢;refine Au 0 ?_;refine fZ 1 (some 10) (v:=.agg #[.slice p.A s.As.sectors.length p.c,s.As.left,s.As.down]) rfl (yieldsIf_load_mid (by rfl) 28 (.tmp 9) rfl w.heap.size 3 (by rfl) [.slice p.A s.As.sectors.length p.c,.int .i64 s.As.left,.bool s.As.down] _ (fun u R j v O=>by rw[Aa (Ae r.out.Ai R)];rcases j with _|_|_|j<;>simp at O ⊢<;>exact O) Cu Kr Kr) ?_
  try simp only[Act.put,pS]
  refine fZ 2 (some 11) (v:=.agg (Aj s p)) rfl (yieldsIf_load_mid (by rfl) 36 (.tmp 2) rfl w.heap.size 0 (by rfl) (Aj s p).toList _ (fun u R=>(by intro j v O;rw[Nat.zero_add,Aa (Ae r.out.Ai R)];simpa using O)) Ar Kr Kr) ?_
  try simp only[Act.put,pS]
  refine Au 3 ?_;refine Ch 4 fun K I=>?_
  go_simp
  (refine(D.out _).mono ?_);rintro e T ⟨rfl,b⟩;have i:=Ad hSn b;clear hSn b;have hSn:=i;clear i
  refine Bq I (fun f=>?_);clear I K;refine Ch 5 fun K I=>?_
  go_simp
  (refine(g.out _ (r.out.below.trans (hSn.mono r.out.below.size))).mono ?_);rintro e w3 ⟨rfl,d⟩;have i:=Ad hSn d;clear hSn d;have hSn:=i;clear i
  refine Bq I (fun f=>?_);clear I K;refine Au 6 ?_;refine Au 7 ?_;refine Au 8 ?_;refine Au 9 ?_;refine Au 10 ?_;refine wpAnyH_done Kr ?_ _;clear f;go_wp2_with fail;go_meet
  case rel=>exact⟨rfl,rfl,hSn⟩
 case rest=>
  obtain⟨rfl,rfl,J⟩:=hcut;obtain⟨w1,rfl⟩:=ex wc;have a:=Hq (r.out.below.trans (J.mono r.out.below.size));clear J r D g;rcases E.out with⟨-,L,rfl⟩|⟨-,L,a1,e2⟩
  ·obtain⟨rfl,rfl⟩:=Prod.mk.inj L
   clear L E;go_wp2_with fail;go_ret2;exact⟨rfl,a.out⟩
  ·obtain⟨rfl,rfl⟩:=Prod.mk.inj L
   have P:=Hq e2;clear L E e2;have a6:∀ W:World,(Instr.makeSlice 104 (.int .i64 512) (.int .i64 512)).run Tryz.prog W= .ok (.slice (some ⟨W.heap.size,0,none⟩) 512 512) (W.alloc (.cells (madeCells #[Value.int .u8 0] 512) 5)):=fun W=>Hr 512 (by omega) W;have U:=Hs 512;rw[show(⟨(List.replicate 512 0).toArray⟩:ByteArray)=I4 from rfl]at U;have b:=Ab w1 (.cells (madeCells #[Value.int .u8 0] 512) 5)
   by_cases k:C=I4
   ·have hq:(C.toList==I4.toList)=true:=by rw[k];exact beq_self_eq_true _
    have l:=P.out;rw[if_pos k]at l;have M:=Hq l;clear l P;clear k
    go_wp2_with(go_at_call 60;refine(Nu 0 _).mono ?_;rintro e T ⟨rfl,d⟩)
    go_ret2;exact⟨by rw[M.out];rfl,a.out.trans ((b.mono a.out.size).trans (d.mono (Nat.le_trans a.out.size b.size)))⟩
   ·have hq:(C.toList==I4.toList)=false:=by
     rw[beq_eq_false_iff_ne];intro h;rw[ByteArray.toList_eq,ByteArray.toList_eq]at h;exact k (ByteArray.ext (Array.toList_inj.1 h))
    have l:=P.out;rw[if_neg k]at l;clear P;have t:=Hq (fun W=>Xs C (by omega) W);have V:=Hq (fun W=>Xq C (by omega) W);have X:=Hq (fun m W=>Jf C m (by omega) W)
    cases z:Hn C with
    |true=>
     rw[z]at t l;have M:=Hq (l.trans (if_pos rfl));clear z l
     go_wp2_with(first
      |(go_at_call 222;refine(t.out _).mono ?_;rintro e T ⟨rfl,d⟩)
      |(go_at_call 192;refine(V.out _).mono ?_;rintro e w3 ⟨rfl,Y⟩)
      |(go_at_call 101;refine(X.out _ _).mono ?_;rintro e w4 ⟨rfl,Z⟩))
     go_ret2;have Q:=Ad d (Ad Y Z);exact⟨by rw[M.out];rfl,a.out.trans ((b.mono a.out.size).trans (Q.mono (Nat.le_trans a.out.size b.size)))⟩
    |false=>
     rw[z]at t l;have M:=Hq (l.trans (if_neg (by decide)));clear z l
     go_wp2_with(go_at_call 222;refine(t.out _).mono ?_;rintro e T ⟨rfl,d⟩)
     go_ret2;exact⟨by rw[M.out];rfl,a.out.trans ((b.mono a.out.size).trans (d.mono (Nat.le_trans a.out.size b.size)))⟩
theorem Zt (p:ByteArray)(f:p.size≤140737488355328)(w:World):
 Cr 239 #[p] w (.bool (Bk p)):=by
 have d:=Hq (fun W=>Gj p f W);generalize Bk p=b at d ⊢;generalize Af p=y at d;go_enter Tryz.func239,Tryz.ntmps239
 go_wp2_with(go_at_call 135;refine(d.out _).mono ?_;rintro e h ⟨x,A,c,rfl,g,a⟩)
 go_ret;exact⟨rfl,by repeat (first|exact a|refine Below.alloc ?_ (by first|exact a.size|simp) _|refine Below.setCell ?_ (by first|exact a.size|simp) _)⟩
theorem dF (p:ByteArray)(l:p.size≤140737488355328)(w:World):
 Cr 238 #[p] w (.string (Dn p)):=by
 have c:=Hq (fun W=>Zt p l W);unfold Dn
 cases b:Bk p with
 |false=>
  rw[b]at c;clear b;go_enter Tryz.func238,Tryz.ntmps238
  go_wp2_with(go_at_call 239;refine(c.out _).mono ?_;rintro e g ⟨rfl,a⟩)
  go_ret;exact⟨rfl,a⟩
 |true=>
  have h:=Gk b;have t:4≤p.size:=by omega
  have i:=Hq (fun d W f=>Re (p.extract 4 512) (by simp;omega) d W f);have m:(p.extract 4 p.size).size=508:=by simp;omega
  have o:(p.extract 4 512).size=508:=by simp;omega
  unfold K4;generalize Oct.Gm (p.extract 4 512).data.toList=n at i ⊢;have r:(Oct.Ba (n:Int) 4).size=4:=Oct.Bh _ 4 (by omega);have j:=Hq (fun d W f=>Rb (n:Int) 4 (by omega) (by omega) d W f);generalize Oct.Ba (n:Int) 4=q at j r ⊢;rw[b]at c;clear b;go_enter Tryz.func238,Tryz.ntmps238
  go_upto_region 3 with(first|(go_at_call 239;refine(c.out _).mono ?_;rintro e g ⟨rfl,a⟩))
  go_region_held3 (fun s=>Bw g s) (first|assumption|exact(Below.refl _ _).drew) (first|(go_at_call 227;refine(i.out _ _ (by assumption)).mono ?_;rintro e u ⟨rfl,k⟩)|(go_at_call 206;refine(j.out _ _ (by assumption)).mono ?_;rintro e v ⟨rfl,k⟩))
  go_wp2_with fail;go_ret;exact⟨rfl,andThen a k⟩
theorem Zu {N n B:Nat}(s:Tx.St)(p:SP)(fs:List Fr)(hW:Wf N n B s fs)(k:Nat)(hk:k<fs.length)(hN:N≤3000)(aa:¬ fs[k].rc=0)(w:World)(h:Ao w s p fs):
 Cq 190 #[Ag s p,.int .i64 (k:Int)] w (Ie (C6 s fs k) w):=by
 have HP:=Hq h;have c7:=Hq h.fn;have c8:fs.length≤100:=by have:=hW.nf;omega
 have ca:=hW.n1;have hF:=hW.fr k hk;have av:=hF.is (hF.rz aa);have bf:=(Gb av).2.2.2;obtain⟨pg,ae⟩:∃ pg:Nat,fs[k].Ac=(pg:Int):=⟨fs[k].Ac.toNat,by have:=hF.pg;omega⟩;have cb:pg<n:=by have:=hF.pg;omega
 have J:=hW.low;have af:=Hq (fun W (D:Bw w W)=>dB s.As hW.dk.lb p.A p.c s.log J.al (by have:=J.ef;omega) (by have:=J.n;omega) (by have:=J.n;omega) (by have:=J.f;omega) (by have:=J.f;omega) (by have:=J.t0;have:=J.ef;omega) W (h.st.dk.below D) (h.st.dt.below D));have ag:=hW.dk.force s.log;have bg:Ef s (pg:Int)=1+N+4*pg:=by unfold Ef;rw[hW.zl];omega
 have b4:C6 s fs k=if ¬ (Lg.Az s.As s.log).2.2=0 then⟨{s with As:=(Lg.Az s.As s.log).1,log:=(Lg.Az s.As s.log).2.1},fs,(Lg.Az s.As s.log).2.2⟩else
  if ¬ (Gy (Lg.Az s.As s.log).1 (1+N+4*pg) (Dn fs[k].bytes) 4).2=0 then⟨{s with As:=(Gy (Lg.Az s.As s.log).1 (1+N+4*pg) (Dn fs[k].bytes) 4).1,log:=(Lg.Az s.As s.log).2.1},fs,(Gy (Lg.Az s.As s.log).1 (1+N+4*pg) (Dn fs[k].bytes) 4).2⟩
  else⟨{s with As:=(Gy (Lg.Az s.As s.log).1 (1+N+4*pg) (Dn fs[k].bytes) 4).1,log:=(Lg.Az s.As s.log).2.1},fs.set k {fs[k]with rc:=0},0⟩:=by
  unfold C6;rw[Cg hk,if_neg aa,ae,bg]
 rw[b4];generalize Lg.Az s.As s.log=y at af ag b4 ⊢;obtain⟨d2,a,T⟩:=y;simp only at af ag ⊢;have bh:=Hq (fun A c W=>show Cr 221 #[Ag {s with As:=d2,log:=a} {p with A:=A,c:=c},.int .i64 (pg:Int)] W (.int .i64 ((1+N+4*pg:Nat):Int)) from by
  have hz:=hW.zl;have h9:=R8 {s with As:=d2,log:=a} {p with A:=A,c:=c} (pg:Int) (by show 0≤s.zlog∧s.zlog≤3000;omega) (by omega) W;rw[show(1+(({s with As:=d2,log:=a}:Tx.St).zlog)+4*(pg:Int))=((1+N+4*pg:Nat):Int)from by show 1+s.zlog+4*(pg:Int)=_;omega]at h9;exact h9)
 have b5:=Hq (fun W=>dF fs[k].bytes (by have:=hF.sz;omega) W);have a6:=Hq (fun A c W (hr:Ca W d2 A c) (ht:Cp 0 W 9 A)=>Zs d2 ag A c (1+N+4*pg) (by omega) (by omega) (Dn fs[k].bytes) bf W hr ht);generalize Dn fs[k].bytes=z at b5 a6 ⊢;generalize 1+N+4*pg=at_ at bh a6 ⊢;generalize Gy d2 at_ z 4=y at a6 ⊢;obtain⟨d3,e3⟩:=y;simp only at a6 ⊢;generalize hX:(if ¬ T=0 then(⟨{s with As:=d2,log:=a},fs,T⟩:Px)else if ¬ e3=0 then⟨{s with As:=d3,log:=a},fs,e3⟩else⟨{s with As:=d3,log:=a},fs.set k {fs[k]with rc:=0},0⟩)=X;have b6:=Hq (fun(h2:¬ T=0) (w':World) (q:SP) (hp:Ao w' {s with As:=d2,log:=a} q fs) (D:Bw w w')=>show Ie X w (.returned (.tuple #[Ag {s with As:=d2,log:=a} q,T])) w' from by rw[← hX,if_pos h2];exact⟨q,rfl,hp,D⟩);have ah:=Hq (fun(h2:T=0) (h3:¬ e3=0) (w':World) (q:SP) (hp:Ao w' {s with As:=d3,log:=a} q fs) (D:Bw w w')=>show Ie X w (.returned (.tuple #[Ag {s with As:=d3,log:=a} q,e3])) w' from by rw[← hX,if_neg (fun hn=>hn h2),if_pos h3];exact⟨q,rfl,hp,D⟩);have a7:=Hq (fun(h2:T=0) (h3:e3=0) (w':World) (q:SP) (hp:Ao w' {s with As:=d3,log:=a} q (fs.set k {fs[k]with rc:=0})) (D:Bw w w')=>show Ie X w (.returned (.tuple #[Ag {s with As:=d3,log:=a} q,()])) w' from by rw[← hX,if_neg (fun hn=>hn h2),if_neg (fun hn=>hn h3)];exact⟨q,rfl,hp,D⟩);generalize Ie X w=Q at b6 ah a7 ⊢;obtain⟨b,off,bj,cc,b7,U⟩:=Bu Dh h.fr hk;clear hX b4 J ag hF av bf;generalize cd:fs[k]=f at U a7 b5 ae aa;have cf:=Hq b7;have bk:=Hq (fun u (hu:Bw w u)=>show u.rangeAt b (off+k*5) (Ib f)from fun i v hv=>by rw[hu.cell (p:=⟨b,off+k*5+i,none⟩) b7];exact U i v hv);have bl:=Hq bj;have ct:(0:Int)≤(k:Int):=by omega
 have cv:(k:Int)<(fs.length:Int):=by omega
 have cg:=Hq ae;clear h hW bg cd U cc b7 bj cb ae ca aa;go_enter Tryz.func190,Tryz.ntmps190;go_upto_region 1 with fail;have H0:=Hp w (Aj s p) 36 #[(),(),(),'s',(),false,(),(),(),(),"",'s',(),'s',()] 36;obtain⟨W0,bm⟩:=Ee H0;rw[← bm]at H0 ⊢;clear bm;have hc:=show W0.cell? ⟨w.heap.size,11,none⟩=some (.slice (some ⟨b,off,none⟩) fs.length p.fc)from by rw[Aa H0.out.Ai,← bl.out,← c7.out];rfl
 have bn:=Hq (show W0.rangeAt b (off+k*5) (Ib f)from bk.out W0 H0.out.below)
 go_upto_region 2 with(first
  |(refine Cw Kr fun K L=>wp_load_mid 116 (.tmp 14) rfl b (off+k*5) rfl (Ib f) _ bn.out Fw Kr Kr (L _ _ ?_))
  |with_reducible refine sN (Er f) ?_)
 have H1:=Hq (H0.out.step (Ab W0 (.cells (Er f) 116)));have HG:=Hq (heap_alloc_new W0 (.cells (Er f) 116));have cj:w.heap.size+1<W0.heap.size:=H0.out.lt (i:=1) (by simp);obtain⟨g,hg⟩:=ex W0.heap.size;obtain⟨w1,ai⟩:=ex (W0.alloc (.cells (Er f) 116));rw[← hg,← ai]at HG;rw[← ai]at H1;rw[← ai,← hg];rw[← hg]at cj;have cw:g<w1.heap.size:=By HG.out;clear ai hg H0 bn hc bk
 try simp only[Act.put]
 go_upto_region 3 with(first
  |with_reducible refine lP #[.slice p.A s.As.sectors.length p.c,s.As.left,s.As.down] H1.out.Ai Cu ?_
  |with_reducible refine lP #[s.log.from_,s.log.n,s.log.end_,s.log.safe,s.log.tail] H1.out.Ai Fi ?_
  |(go_at_call 236;refine(af.out _ H1.out.below).mono ?_;rintro e O ⟨A2,c2,rfl,bo,bp,E⟩;have H2:=Hq (H1.out.step E);have b8:=Hq (show((O.alloc (.cells #['s',(),false] 28)).alloc (.cells #[(),(),(),(),""] 30)).heap[O.heap.size]? =some (.cells #['s',(),false] 28 (0,0))from Ae (heap_alloc_new O (.cells #['s',(),false] 28)) (Ab _ _));have b9:=Hq (show(((O.alloc (.cells #['s',(),false] 28)).alloc (.cells #[(),(),(),(),""] 30)).setRow O.heap.size #[.slice A2 d2.sectors.length c2,d2.left,d2.down]).heap[O.heap.size+1]? =some (.cells #[(),(),(),(),""] 30 (0,0))from(Ah _ _ #[.slice A2 d2.sectors.length c2,d2.left,d2.down] _ (by omega)).trans (by have h9:=heap_alloc_new (O.alloc (.cells #['s',(),false] 28)) (.cells #[(),(),(),(),""] 30);simpa using h9)))
  |with_reducible refine lS #[.slice A2 d2.sectors.length c2,d2.left,d2.down] b8.out ?_
  |with_reducible refine lS #[a.from_,a.n,a.end_,a.safe,a.tail] b9.out ?_)
 have aw:Cp 0 O 9 A2:=bp.elim (fun e=>by rw[e];exact HP.out.st.dt.below (H1.out.below.trans (E.mono H1.out.below.size))) (fun e=>e.mono (Nat.zero_le _));have a8:Bw O ((((O.alloc (.cells #['s',(),false] 28)).alloc (.cells #[(),(),(),(),""] 30)).setRow O.heap.size #[.slice A2 d2.sectors.length c2,d2.left,d2.down]).setRow (O.heap.size+1) #[a.from_,a.n,a.end_,a.safe,a.tail]):=E7 (by omega) (E7 (Nat.le_refl _) (Ad (Ab O (.cells #['s',(),false] 28)) (Ab _ (.cells #[(),(),(),(),""] 30))) #[.slice A2 d2.sectors.length c2,d2.left,d2.down]) #[a.from_,a.n,a.end_,a.safe,a.tail];have H3:=Hq (H1.out.step (Ad E a8));have aj:=Hq (Ae HG.out (Ad E a8));have ak:=Hq (setRow_heap _ _ _ #[a.from_,a.n,a.end_,a.safe,a.tail] _ _ b9.out);have an:=Hq ((Ah _ (O.heap.size+1) #[a.from_,a.n,a.end_,a.safe,a.tail] O.heap.size (by omega)).trans (setRow_heap _ _ _ #[.slice A2 d2.sectors.length c2,d2.left,d2.down] _ _ b8.out));have ao:=Hq (HP.out.As (H3.out.below) a (bo.below a8) (aw.below a8));have bq:g<O.heap.size:=by have:=By HG.out;have:=E.size;omega
 obtain⟨g7,ba⟩:=ex O.heap.size;rw[← ba]at H3 aj an ak ao bq;rw[← ba];generalize (((O.alloc (.cells #['s',(),false] 28)).alloc (.cells #[(),(),(),(),""] 30)).setRow g7 #[.slice A2 d2.sectors.length c2,d2.left,d2.down]).setRow (g7+1) #[a.from_,a.n,a.end_,a.safe,a.tail]=w3 at H3 aj an ak ao ⊢;clear ba b8 b9 a8 bo aw bp E H1 H2 HG af HP
 try simp only[Act.put]
 go_cut [2] (fun x wc=>x= .pointer (some ⟨w.heap.size,0,none⟩)∧D6 w.heap.size w [((Aj {s with As:=d2,log:=a} {p with A:=A2,c:=c2}),36),(#[(),(),(),'s',(),false,(),(),(),(),"",'s',(),'s',()],36)] wc∧wc.heap[g]? =some (.cells (Er f) 116 (0,0))∧wc.heap[g7]? =some (.cells #[.slice A2 d2.sectors.length c2,d2.left,d2.down] 28 (0,0))∧Ao wc {s with As:=d2,log:=a} {p with A:=A2,c:=c2} fs)
 case first=>
  have C:=H3.out.drew;have d:=ao.out.below (Below.refl _ w3).drew;have hSn:w3.drew.heap[g7]? =some (.cells #[.slice A2 d2.sectors.length c2,d2.left,d2.down] 28 (0,0))∧w3.drew.heap[g7+1]? =some (.cells #[a.from_,a.n,a.end_,a.safe,a.tail] 30 (0,0))∧w3.drew.heap[g]? =some (.cells (Er f) 116 (0,0)):=⟨an.out,ak.out,aj.out⟩;refine Gd (S:=(fun u=>u.heap[g7]? =some (.cells #[.slice A2 d2.sectors.length c2,d2.left,d2.down] 28 (0,0))∧u.heap[g7+1]? =some (.cells #[a.from_,a.n,a.end_,a.safe,a.tail] 30 (0,0))∧u.heap[g]? =some (.cells (Er f) 116 (0,0)))) (fun l=>?_);generalize w3.drew=w9 at hSn C d ⊢;refine Nk 0 Cu ?_;refine fZ 1 (some 26) (v:=.agg #[a.from_,a.n,a.end_,a.safe,a.tail]) rfl (yieldsIf_load_mid (by rfl) 30 (.tmp 8) rfl (g7+1) 0 (by rfl) #[.int .i64 a.from_,.int .i64 a.n,.int .i64 a.end_,.int .i64 a.safe,.string a.tail].toList _ (fun u hu=>(by intro j v hj;rw[Nat.zero_add,Aa hu.2.1];simpa using hj)) Fi Kr Kr) ?_
  try simp only[Act.put,pS]
  refine Au 2 ?_;refine Ch 3 fun K L=>?_;refine Ay (by rfl) ?_;refine nT 28 (.tmp 27) (.tmp 25) rfl w.heap.size 3 #[.slice A2 d2.sectors.length c2,d2.left,d2.down] (Aj s p) (Aj {s with As:=d2} {p with A:=A2,c:=c2}) _ rfl rfl C.Ai rfl Kr Kr Kr ?_;have o:=And.intro ((Ah _ _ (Aj {s with As:=d2} {p with A:=A2,c:=c2}) _ (show g7≠w.heap.size by omega)).trans hSn.1) (And.intro ((Ah _ _ (Aj {s with As:=d2} {p with A:=A2,c:=c2}) _ (show g7+1≠w.heap.size by omega)).trans hSn.2.1) ((Ah _ _ (Aj {s with As:=d2} {p with A:=A2,c:=c2}) _ (show g≠w.heap.size by omega)).trans hSn.2.2));have r:=d.other (t:=36) C.Ai (by decide) (by decide) (by decide) (Aj {s with As:=d2} {p with A:=A2,c:=c2});have P:=C.row 0 (Aj {s with As:=d2} {p with A:=A2,c:=c2}) _ rfl;clear hSn d C;have hSn:=o;have d:=r;have C:=P;clear o r P;refine Bq L (fun l=>?_);clear L K;refine Au 4 ?_;refine Ch 5 fun K L=>?_;refine Ay (by rfl) ?_;refine nT 30 (.tmp 28) (.tmp 26) rfl w.heap.size 6 #[a.from_,a.n,a.end_,a.safe,a.tail] (Aj {s with As:=d2} {p with A:=A2,c:=c2}) (Aj {s with As:=d2,log:=a} {p with A:=A2,c:=c2}) _ rfl rfl C.Ai rfl Kr Kr Kr ?_;have o:=And.intro ((Ah _ _ (Aj {s with As:=d2,log:=a} {p with A:=A2,c:=c2}) _ (show g7≠w.heap.size by omega)).trans hSn.1) (And.intro ((Ah _ _ (Aj {s with As:=d2,log:=a} {p with A:=A2,c:=c2}) _ (show g7+1≠w.heap.size by omega)).trans hSn.2.1) ((Ah _ _ (Aj {s with As:=d2,log:=a} {p with A:=A2,c:=c2}) _ (show g≠w.heap.size by omega)).trans hSn.2.2));have r:=d.other (t:=36) C.Ai (by decide) (by decide) (by decide) (Aj {s with As:=d2,log:=a} {p with A:=A2,c:=c2});have P:=C.row 0 (Aj {s with As:=d2,log:=a} {p with A:=A2,c:=c2}) _ rfl;clear hSn d C;have hSn:=o;have d:=r;have C:=P;clear o r P;refine Bq L (fun l=>?_);clear L K;refine wpAnyH_done Kr ?_ _;clear l;go_wp2_with fail;go_meet
  case rel=>exact⟨rfl,C,hSn.2.2,hSn.1,d⟩
 case rest=>
  obtain⟨rfl,h4,br,ax,bs⟩:=hcut;obtain⟨w4,rfl⟩:=ex wc;have H4:=Hq h4;have bt:=Hq br;have ay:=Hq ax;have bb:=Hq bs;clear h4 br ax bs H3 aj an ak ao
  by_cases Y:T=0
  ·have bu:(T != 0)=false:=by rw[Y];rfl
   have aq:=Hq Y;clear Y b6;go_upto_region 6 with fail;have C:=H4.out.drew;have d:=bb.out.below (Below.refl _ w4).drew;have hSn:w4.drew.heap[w.heap.size]? =some (.cells (Aj {s with As:=d2,log:=a} {p with A:=A2,c:=c2}) 36 (0,0))∧w4.drew.heap[g]? =some (.cells (Er f) 116 (0,0)):=⟨C.Ai,bt.out⟩;have m:w4.drew.heap[g7]? =some (.cells #[.slice A2 d2.sectors.length c2,d2.left,d2.down] 28 (0,0)):=ay.out;have Hy:=Hq (fun(u:World) (bw:u.heap[w.heap.size]? =some (.cells (Aj {s with As:=d2,log:=a} {p with A:=A2,c:=c2}) 36 (0,0))∧u.heap[g]? =some (.cells (Er f) 116 (0,0)))=>(And.intro (show u.cell? ⟨g,0,none⟩=some (.int .i64 (pg:Int))from(by rw[Aa bw.2,← cg.out];rfl)) (show u.cell? ⟨g,1,none⟩=some (.string f.bytes)from by rw[Aa bw.2];rfl)));refine Gd (S:=(fun u=>u.heap[w.heap.size]? =some (.cells (Aj {s with As:=d2,log:=a} {p with A:=A2,c:=c2}) 36 (0,0))∧u.heap[g]? =some (.cells (Er f) 116 (0,0)))) (fun l=>?_);generalize w4.drew=w9 at hSn C d m ⊢;refine Au 0 ?_;refine fZ 1 (some 35) (v:=.agg #[.slice A2 d2.sectors.length c2,d2.left,d2.down]) rfl (yieldsIf_load_mid (by rfl) 28 (.tmp 34) rfl w.heap.size 3 (by rfl) [.slice A2 d2.sectors.length c2,.int .i64 d2.left,.bool d2.down] _ (fun u hu j v hj=>by rw[Aa hu.1];rcases j with _|_|_|j<;>simp at hj ⊢<;>exact hj) Cu Kr Kr) ?_
   try simp only[Act.put,pS]
   refine Nk 2 Ar ?_;refine Au 3 ?_;refine Au 4 ?_;refine Au 6 ?_;refine Au 7 ?_;refine Ch 5 fun K L=>?_
   go_simp
   (refine(bh.out A2 c2 _).mono ?_);rintro e u1 ⟨rfl,D⟩;have o:=And.intro (Ae hSn.1 D) (Ae hSn.2 D);have G:=Ae m D;have r:=d.below D;have P:=C.step D;clear hSn m d C;have hSn:=o;have m:=G;have d:=r;have C:=P;clear o G r P
   refine Bq L (fun l=>?_);clear L K;refine Ch 8 fun K L=>?_
   go_simp
   (refine(b5.out _).mono ?_);rintro e u2 ⟨rfl,E⟩;have o:=And.intro (Ae hSn.1 E) (Ae hSn.2 E);have G:=Ae m E;have r:=d.below E;have P:=C.step E;clear hSn m d C;have hSn:=o;have m:=G;have d:=r;have C:=P;clear o G r P
   refine Bq L (fun l=>?_);clear L K;refine Ch 9 fun K L=>?_
   go_simp
   (refine(a6.out A2 c2 _ d.st.dk d.st.dt).mono ?_);rintro e u3 ⟨I,c3,rfl,ck,cm,Z⟩;have bx:=d.As Z a ck cm;have o:=And.intro (Ae hSn.1 Z) (Ae hSn.2 Z);have G:=Ae m Z;have r:=d.below Z;have P:=C.step Z;clear hSn m d C;have hSn:=o;have m:=G;have d:=r;have C:=P;clear o G r P;clear d;have d:=bx;clear bx
   refine Bq L (fun l=>?_);clear L K;refine Au 10 ?_;refine Au 11 ?_;refine Au 12 ?_;refine Ch 13 fun K L=>?_;refine Ay (by rfl) ?_;refine sW #[.slice I d3.sectors.length c3,d3.left,d3.down] m ?_;have o:=And.intro ((Ah _ _ #[.slice I d3.sectors.length c3,d3.left,d3.down] _ (show w.heap.size≠g7 by omega)).trans hSn.1) ((Ah _ _ #[.slice I d3.sectors.length c3,d3.left,d3.down] _ (show g≠g7 by omega)).trans hSn.2);have r:=d.other (t:=28) m (by decide) (by decide) (by decide) #[.slice I d3.sectors.length c3,d3.left,d3.down];have P:=C.under (M:=g7) (by simp;omega) (E7 (g:=g7) (Nat.le_refl g7) (show Below g7 u3 u3 from⟨rfl,rfl,rfl,Nat.le_refl _,fun _ _=>rfl⟩) #[.slice I d3.sectors.length c3,d3.left,d3.down]);have G:=setRow_heap _ _ _ #[.slice I d3.sectors.length c3,d3.left,d3.down] _ _ m;clear hSn d C m;have hSn:=o;have d:=r;have C:=P;have m:=G;clear o r P G;generalize u3.setRow g7 #[.slice I d3.sectors.length c3,d3.left,d3.down]=w12 at hSn d C m ⊢;refine Bq L (fun l=>?_);clear L K;refine Au 14 ?_;refine wpAnyH_done Kr ?_ _;clear l;have az:=Hq m;have ar:=Hq C;have b0:=Hq hSn.2;have b1:=Hq d;clear m C hSn d H4 bt ay bb
   go_upto_region 8 with(first
    |with_reducible refine lL az.out Cu ?_
    |with_reducible refine lU #[.slice I d3.sectors.length c3,d3.left,d3.down] (Aj {s with As:=d3,log:=a} {p with A:=I,c:=c3}) ar.out.Ai ?_)
   have R:=Hq (show D6 w.heap.size w [((Aj {s with As:=d3,log:=a} {p with A:=I,c:=c3}),36),(#[(),(),(),'s',(),false,(),(),(),(),"",'s',(),'s',()],36)] (w12.setRow w.heap.size (Aj {s with As:=d3,log:=a} {p with A:=I,c:=c3}))from ar.out.row 0 (Aj {s with As:=d3,log:=a} {p with A:=I,c:=c3}) _ rfl);have V:=Hq (b1.out.other (t:=36) ar.out.Ai (by decide) (by decide) (by decide) (Aj {s with As:=d3,log:=a} {p with A:=I,c:=c3}));have H:=Hq ((Ah _ _ (Aj {s with As:=d3,log:=a} {p with A:=I,c:=c3}) _ (show g≠w.heap.size by omega)).trans b0.out);generalize w12.setRow w.heap.size (Aj {s with As:=d3,log:=a} {p with A:=I,c:=c3})=w13 at R V H ⊢;clear az ar b0 b1
   by_cases a1:e3=0
   ·have bz:(e3 != 0)=false:=by rw[a1];rfl
    have bc:=Hq a1;clear a1 ah;have cn:=show w13.cell? ⟨g,4,none⟩=some (.int .i64 f.rc)from(by rw[Aa H.out];rfl);have cp:=Ap H.out 4;have cu:g<w13.heap.size:=By H.out;have cq:=Hq (fun W (hp:Ao W {s with As:=d3,log:=a} {p with A:=I,c:=c3} fs)=>Hd {s with As:=d3,log:=a} {p with A:=I,c:=c3} fs c8 k hk {f with rc:=0} W hp);go_upto_region 11 with fail;have b2:=Hq (show(w13.setCell ⟨g,4,none⟩ (.int .i64 0)).heap[g]? =some (.cells (Er {f with rc:=0}) 116 (0,0))from by have:=Cb 4 H.out (.int .i64 0);simpa using this);have bd:=Hq (R.out.under (M:=g) (by simp;omega) ((Below.refl _ w13).setCell (p:=⟨g,4,none⟩) (Nat.le_refl _) (.int .i64 0)));have b3:=Hq (V.out.own H.out (fun ad e=>by have T:p.F=some ad:=e;rw[bl.out]at T;injection T with T;subst T;have:=cf.out;show b≠g;omega) 4 (.int .i64 0));generalize w13.setCell ⟨g,4,none⟩ (.int .i64 0)=w14 at b2 bd b3 ⊢;clear cn cp R V H
    go_wp2_with(first
     |with_reducible refine lL bd.out.Ai Ar ?_
     |with_reducible refine lL b2.out Fw ?_
     |(go_at_call 169;refine(cq.out _ b3.out).mono ?_;rintro e cx ⟨q,rfl,cr,c6⟩;have au:=Hq (bd.out.step c6))
     |with_reducible refine lS (Aj {s with As:=d3,log:=a} q) au.out.Am ?_)
    refine rT2 () au.out.Am Ar ?_;exact a7.out aq.out bc.out _ q (cr.other (t:=36) au.out.Am (by decide) (by decide) (by decide) _) (au.out.row 1 (Aj {s with As:=d3,log:=a} q) _ rfl).below
   ·have bz:(e3 != 0)=true:=bne_iff_ne.2 a1
    have bc:=Hq a1;clear a1 a7
    go_wp2_with(first|with_reducible refine lL R.out.Ai Ar ?_|with_reducible refine lS (Aj {s with As:=d3,log:=a} {p with A:=I,c:=c3}) R.out.Am ?_)
    refine rT2 e3 R.out.Am Ar ?_;exact ah.out aq.out bc.out _ {p with A:=I,c:=c3} (V.out.other (t:=36) R.out.Am (by decide) (by decide) (by decide) _) (R.out.row 1 (Aj {s with As:=d3,log:=a} {p with A:=I,c:=c3}) _ rfl).below
  ·have bu:(T != 0)=true:=bne_iff_ne.2 Y
   have aq:=Hq Y;clear Y ah a7
   go_wp2_with(first|with_reducible refine lL H4.out.Ai Ar ?_|with_reducible refine lS (Aj {s with As:=d2,log:=a} {p with A:=A2,c:=c2}) H4.out.Am ?_)
   refine rT2 T H4.out.Am Ar ?_;exact b6.out aq.out _ {p with A:=A2,c:=c2} (bb.out.other (t:=36) H4.out.Am (by decide) (by decide) (by decide) _) (H4.out.row 1 (Aj {s with As:=d2,log:=a} {p with A:=A2,c:=c2}) _ rfl).below
theorem dG {s:Tx.St}{fs:List Fr}{k:Nat}(hk:k<fs.length)(h:fs[k].rc=0):C6 s fs k=⟨s,fs,0⟩:=by unfold C6;rw[Cg hk,if_pos h]
theorem dH (s:Tx.St)(p:SP)(fs:List Fr)(n:p.fn=fs.length)(E:fs.length≤100)(w:World)(D:Reads w p.F p.fc fs.length (fs.flatMap Ib)):
 Cq 223 #[Ag s p] w fun e w'=>((e= .returned (.int .i64 (-1))∧∀ j (hj:j<fs.length),fs[j].bytes≠⟨#[]⟩)∨∃ (k:Nat) (hk:k<fs.length),e= .returned (.int .i64 k)∧fs[k].bytes=⟨#[]⟩∧∀ j (hj:j<fs.length),j<k→fs[j].bytes≠⟨#[]⟩)∧Bw w w':=by
 have G:=Hq D;clear D;have x:=Hq n;clear n;go_enter Tryz.func223,Tryz.ntmps223;go_upto_region 1 with fail;have m:=aI w (Aj s p) 36;obtain⟨y,o⟩:=Ee m;rw[← o]at m ⊢;clear o;have z:=show y.cell? ⟨w.heap.size,11,none⟩=some (.slice p.F fs.length p.fc)from by rw[Aa m.out.Ai,← x.out];rfl
 have q:=Hq m.out.below;have H:=Hq (fun u (I:Bw y u)=>show u.cell? ⟨w.heap.size,11,none⟩=some (.slice p.F fs.length p.fc)from by rw[I.cell (p:=⟨w.heap.size,11,none⟩) (m.out.lt (i:=0) (by simp))];exact z);clear m;go_wp2_with fail
 go_loopw [3] (fun i wr=>∃ k:Nat,k≤fs.length∧i= .int .i64 k∧(∀ j (hj:j<fs.length),j<k→fs[j].bytes≠⟨#[]⟩)∧Bw y wr) (fun i _=>fs.length-(intOf i).toNat)
 case atStart=>exact⟨0,Nat.zero_le _,rfl,fun _ _ h=>absurd h (by omega),Below.refl _ _⟩
 case round=>
  obtain⟨k,hk,rfl,c,d⟩:=hrel;have A:=q.out.trans (d.mono q.out.size);have z:=H.out wr d;have J:(0:Int)≤(k:Int):=by omega
  by_cases r:k<fs.length
  ·have K:(k:Int)<(fs.length:Int):=by omega
   have L:IntKind.i64.wrap ((k:Int)+1)=(k:Int)+1:=IntWalk.i64_in _ (by omega);obtain⟨b,off,B,M,N,a⟩:=Bu Dh (G.out.below A) r;have g:=a 0 _ rfl;have t:=a 1 _ rfl;simp only[Nat.add_zero]at g;clear a;generalize v:fs[k]=f at g t;obtain⟨T,O,U,V,W⟩:=f;simp only at g t;rw[B]at z
   by_cases l:O=⟨#[]⟩
   ·subst l
    have P:=Qr;go_wp2_with fail;go_ret;exact⟨.inr ⟨k,r,rfl,by rw[v],c⟩,A⟩
   ·obtain⟨Q,R,S⟩:=cG l
    go_wp2_with fail;go_roundw
    case rel=>exact⟨k+1,by omega,by go_num,fun j hj C=>by rcases Nat.lt_or_eq_of_le (Nat.le_of_lt_succ C)with h5|h5;(· exact c j hj h5);(· subst h5;rw[v];exact l),d⟩
    case measure=>simp[intOf];omega
  ·obtain rfl:k=fs.length:=by omega
   go_wp2_with fail;go_ret;exact⟨.inl ⟨rfl,fun j hj=>c j hj hj⟩,A⟩
def tN (p:SP)(fs:List Fr)(x:Px×Nat)(w:World)(e:Ending)(w':World):Prop:=∃ q:SP,e= .returned (.tuple #[Ag x.1.s q,.int .i64 (x.2:Int),x.1.e])∧(x.1.e=0∨x.1.e=20→Ao w' x.1.s q x.1.fs)∧Bw w w'∧(q=p∨Lt fs=none)
theorem Zv {N n B:Nat}(s:Tx.St)(p:SP)(fs:List Fr)(hW:Wf N n B s fs)(hN:N≤3000)(w:World)(h:Ao w s p fs):
 Cq 171 #[Ag s p] w (tN p fs (Bl s fs) w):=by
 have b2:=hW.nf;have a1:=Hq (fun W (hb:Bw w W)=>dH s p fs h.fn (by omega) W (h.fr.below hb));have F:=Hq (fun W (hb:Bw w W)=>Zr s p fs hW W (h.below hb));obtain⟨X,hX⟩:=ex (Bl s fs);rw[← hX];have O:=Hq (fun W (l:Bw w W) (k:Nat) (Z:Lt fs=some k)=>show tN p fs X w (.returned (.tuple #[Ag s p,.int .i64 (k:Int),()])) W from by
  have e:X=(⟨s,fs,0⟩,k):=by rw[hX];unfold Bl;rw[Z]
  rw[e];exact⟨p,rfl,fun _=>h.below l,l,.inl rfl⟩)
 have o:=Hq (fun W (l:Bw w W) (Z:Lt fs=none) (v:Fu fs.length (2*fs.length) (s.hand.toNat%fs.length) fs=none)=>show tN p fs X w (.returned (.tuple #[Ag s p,(),.int .i64 18])) W from by
  have e:X=(⟨s,fs,18⟩,0):=by rw[hX];unfold Bl;rw[Z];simp only;rw[v]
  rw[e];exact⟨p,rfl,fun h=>absurd h (by show ¬ ((18:Int)=0∨(18:Int)=20);decide),l,.inl rfl⟩)
 have r:=Hq (fun W (l:Bw w W) (Z:Lt fs=none) (k:Nat) (f:List Fr) (v:Fu fs.length (2*fs.length) (s.hand.toNat%fs.length) fs=some (k,f)) (x:Int) (K:x=(((k+1)%fs.length:Nat):Int)) (Y:Px) (P:Y=C6 {s with hand:=x} f k) (q:SP) (R:Ao W Y.s q Y.fs)=>show tN p fs X w (.returned (.tuple #[Ag Y.s q,.int .i64 (k:Int),Y.e])) W from by
  have e:X=(Y,k):=by rw[hX];unfold Bl;rw[Z];simp only;rw[v,P,K]
  rw[e];exact⟨q,rfl,fun _=>R,l,.inr Z⟩)
 have y:=Hq (fun(k:Nat) (f:List Fr) (v:Fu fs.length (2*fs.length) (s.hand.toNat%fs.length) fs=some (k,f)) (x:Int) (K:x=(((k+1)%fs.length:Nat):Int))=>show ∃ hk:k<f.length,f.length=fs.length∧∀ (q:SP) W,¬ f[k].rc=0→Ao W {s with hand:=x} q f→Cq 190 #[Ag {s with hand:=x} q,.int .i64 (k:Int)] W (Ie (C6 {s with hand:=x} f k) W)from by
  obtain⟨h1,h2,_⟩:=I6 fs.length (by omega) _ _ fs fs k f rfl (Nat.mod_lt _ (by omega)) (Qt.refl fs) v;have hm:(k+1)%fs.length<fs.length:=Nat.mod_lt _ (by omega);have hl:=h2.len;exact⟨by omega,hl,fun q W hr R=>Zu {s with hand:=x} q f ((hW.hand (x:=x) (by omega)).marks h2) k (by omega) hN hr W R⟩)
 clear hX;generalize tN p fs X w=Q at O o r ⊢;generalize Fu fs.length (2*fs.length) (s.hand.toNat%fs.length) fs=V at F o r y;clear h hW;go_enter Tryz.func171,Tryz.ntmps171;go_upto_region 1 with fail;have H0:=Hp w (Aj s p) 36 #[(),(),(),'s',(),false,(),(),(),(),"",'s',(),'s',()] 36;obtain⟨W0,a6⟩:=Ee H0;rw[← a6]at H0 ⊢;clear a6
 go_upto_region 2 with(first|with_reducible refine lL H0.out.Ai Ar ?_|(go_at_call 223;refine(a1.out _ H0.out.below).mono ?_;rintro e w1 ⟨ar,l⟩;have H1:=Hq (H0.out.step l);clear l a1 H0;rcases ar with⟨rfl,hq⟩|⟨k,hk,rfl,a7,a8⟩))
 ·have b3:¬ (0:Int)≤-1:=by decide
  have aa:=Hq (cL fun x K hn=>by
   obtain⟨j,hj,rfl⟩:=List.getElem_of_mem K;exact hn (hq j hj))
  clear hq O
  go_upto_region 5 with(first
   |with_reducible refine lL H1.out.Ai Ar ?_
   |(go_at_call 224;refine(F.out _ H1.out.below).mono ?_;rintro e w2 ⟨x,kk,q,rfl,G,ad⟩)
   |with_reducible refine sN (Aj {s with hand:=x} q) ?_)
  have ae:=G.trans ((Ab w2 (.cells (Aj {s with hand:=x} q) 36)).mono G.size);have z:=Hq (H1.out.step ae);have A:=Hq (heap_alloc_new w2 (.cells (Aj {s with hand:=x} q) 36));have H:=Hq (show(∃ (k:Nat) (f:List Fr),V=some (k,f)∧x=(((k+1)%fs.length:Nat):Int)∧kk=(k:Int)∧Ao (w2.alloc (.cells (Aj {s with hand:=x} q) 36)) {s with hand:=x} q f)∨(V=none∧kk= -1)from ad.imp (fun⟨k,f,a,b,c,d⟩=>⟨k,f,a,b,c,d.below (Ab w2 (.cells (Aj {s with hand:=x} q) 36))⟩) id);obtain⟨g,hg⟩:=ex w2.heap.size;have b4:w.heap.size+1<g:=by have:=H1.out.lt (i:=1) (by simp);have:=G.size;omega
  obtain⟨w3,I⟩:=ex (w2.alloc (.cells (Aj {s with hand:=x} q) 36));rw[← hg,← I]at A;rw[← I]at z H;rw[← I,← hg];clear I hg G ae ad H1 F
  try simp only[Act.put]
  rcases H.out with⟨k,m,v,K,rfl,af⟩|⟨v,rfl⟩
  ·have C:=Hq af
   clear af H o;obtain⟨ag,b5,L⟩:=y.out k m v x K;have ah:=Hq (fun W l Y P q R=>r.out W l aa.out k m v x K Y P q R);have D:=Hq L;clear y r v K L;have b6:¬ (k:Int)<0:=(by omega);have au:(0:Int)≤(k:Int):=(by omega);have b7:(k:Int)<(m.length:Int):=(by omega);obtain⟨b,off,ai,av,aw,E⟩:=Bu Dh C.out.fr ag;have aj:=show w3.cell? ⟨g,11,none⟩=some (.slice (some ⟨b,off,none⟩) m.length q.fc)from(by rw[Aa A.out,← ai,← C.out.fn];rfl);have ax:=show w3.cell? ⟨b,off+k*5+4,none⟩=some (.int .i64 m[k].rc)from E 4 _ rfl;clear E av aw ai
   by_cases u:m[k].rc=0
   ·have ay:(m[k].rc==0)=true:=by rw[u];rfl
    have HZ:=Hq (dG (s:={s with hand:=x}) ag u);clear u D
    go_wp2_with(first|with_reducible refine lL A.out Ar ?_|with_reducible refine lS (Aj {s with hand:=x} q) z.out.Am ?_)
    refine rT3 (.int .i64 (k:Int)) () z.out.Am Ar ?_;exact ah.out _ (z.out.row 1 (Aj {s with hand:=x} q) _ rfl).below ⟨{s with hand:=x},m,0⟩ HZ.out.symm q (C.out.other (t:=36) z.out.Am (by decide) (by decide) (by decide) _)
   ·have ay:(m[k].rc==0)=false:=beq_eq_false_iff_ne.2 u
    have S:=Hq (fun W R=>D.out q W u R);obtain⟨Y,P⟩:=ex (C6 {s with hand:=x} m k);rw[← P]at S;have HY:=Hq P;clear P u D
    go_upto_region 10 with(first
     |with_reducible refine lL A.out Ar ?_
     |(go_at_call 190;refine(S.out _ C.out).mono ?_;rintro e w4 ⟨M,rfl,ak,T⟩)
     |with_reducible refine sN (Aj Y.s M) ?_)
    have an:=T.trans ((Ab w4 (.cells (Aj Y.s M) 36)).mono T.size);have H5:=Hq (z.out.step an);have ao:=Hq (heap_alloc_new w4 (.cells (Aj Y.s M) 36));have aq:=Hq (ak.below (Ab w4 (.cells (Aj Y.s M) 36)));obtain⟨g5,U⟩:=ex w4.heap.size;obtain⟨w5,J⟩:=ex (w4.alloc (.cells (Aj Y.s M) 36));rw[← U,← J]at ao;rw[← J]at H5 aq;rw[← J,← U];clear J U T an ak z A C S aj ax
    try simp only[Act.put]
    go_wp2_with(first|with_reducible refine lL ao.out Ar ?_|with_reducible refine lS (Aj Y.s M) H5.out.Am ?_)
    refine rT3 (.int .i64 (k:Int)) (Y.e) H5.out.Am Ar ?_;exact ah.out _ (H5.out.row 1 (Aj Y.s M) _ rfl).below Y HY.out M (aq.out.other (t:=36) H5.out.Am (by decide) (by decide) (by decide) _)
  ·clear H
   have az:=Hq (fun W l=>o.out W l aa.out v);clear y r o v;have b8:(-1:Int)<0:=by decide
   go_wp2_with(first
    |with_reducible refine lL z.out.Ai Ar ?_
    |with_reducible refine lS (Aj s p) z.out.Am ?_)
   refine rT3 () (.int .i64 18) z.out.Am Ar ?_;exact az.out _ (z.out.row 1 (Aj s p) _ rfl).below
 ·have au:(0:Int)≤(k:Int):=by omega
  clear F y r o;have b0:=Hq (cM hk (fun hn=>hn a7) fun j hj b1=>fun hn=>hn (a8 j hj b1));clear a7 a8
  go_wp2_with(first
   |with_reducible refine lL H1.out.Ai Ar ?_
   |with_reducible refine lS (Aj s p) H1.out.Am ?_)
  refine rT3 (.int .i64 (k:Int)) () H1.out.Am Ar ?_;exact O.out _ (H1.out.row 1 (Aj s p) _ rfl).below k b0.out
theorem dI {N n B:Nat}(s:Tx.St)(p:SP)(fs:List Fr)(a:Wf N n B s fs)(b:N≤3000)(w:World)(h:Ao w s p fs):
 Cq 171 #[Ag s p] w (tJ (Bl s fs) w):=(Zv s p fs a b w h).mono fun _ _ ⟨q,c,d,e,_⟩=>⟨q,c,d,e⟩
theorem Td (s:Tx.St)(p:SP)(s2:Tx.St)(c:SP)(x:Int)(w:World):
 Cr 172 #[Ag s p,Ag s2 c,x] w (if x=20 then Ag s2 c else Ag s p):=by
 by_cases d:x=20
 ·rw[if_pos d]
  have e:(x==20)=true:=by rw[d];rfl
  clear d;go_enter Tryz.func172,Tryz.ntmps172;go_upto_region 1 with fail;have a:=Q6 w (Aj s p) 36 (Aj s2 c) 36 #[(),(),(),'s',(),false,(),(),(),(),"",'s',(),'s',()] 36;obtain⟨f,b⟩:=Ee a;rw[← b]at a ⊢;clear b
  go_wp2_with(first|with_reducible refine lL a.out.Am Ar ?_|with_reducible refine lS (Aj s2 c) a.out.Cj ?_)
  refine rT1 a.out.Cj Ar ?_;exact⟨rfl,(a.out.row 2 (Aj s2 c) _ rfl).below⟩
 ·rw[if_neg d]
  have e:(x==20)=false:=beq_eq_false_iff_ne.2 d;clear d;go_enter Tryz.func172,Tryz.ntmps172;go_upto_region 1 with fail;have a:=Q6 w (Aj s p) 36 (Aj s2 c) 36 #[(),(),(),'s',(),false,(),(),(),(),"",'s',(),'s',()] 36;obtain⟨f,b⟩:=Ee a;rw[← b]at a ⊢;clear b
  go_wp2_with(first|with_reducible refine lL a.out.Ai Ar ?_|with_reducible refine lS (Aj s p) a.out.Cj ?_)
  refine rT1 a.out.Cj Ar ?_;exact⟨rfl,(a.out.row 2 (Aj s p) _ rfl).below⟩
theorem Uw {N n B:Nat}(s:Tx.St)(p:SP)(fs:List Fr)(hW:Wf N n B s fs)(hN:N≤3000)(pg:Int)(w:World)(h:Ao w s p fs):
 Cq 96 #[Ag s p,pg] w (rZ (Mq s fs pg) w):=by
 have ar:=hW.nf;have au:fs.length≤100:=by omega
 have av:=hW.zp;have V:=Hq (fun W=>Y7 s p pg W);obtain⟨X,hX⟩:=ex (Mq s fs pg);rw[← hX]
 by_cases L:0≤pg∧pg<s.zpages
 ·rw[decide_eq_true L]at V
  obtain⟨a,rfl⟩:∃ a:Nat,pg=(a:Int):=⟨pg.toNat,by omega⟩;have hh:Nd s (a:Int):=L;have aw:=Hq (fun W (D:Bw w W)=>eP s p fs h.fn au (a:Int) W (h.fr.below D));have Z:=Hq (fun W (D:Bw w W)=>dE s p fs hW a (by omega) hN W (h.st.dk.below D));have O:=Hq (fun W (D:Bw w W)=>dI s p fs hW hN W (h.below D));have a1:=Hq (fun k hk f W (D:Bw w W)=>Hd s p fs au k hk f W (h.below D));have bc:=Hq h.fn;have HP:=Hq h;have ag:=Hq (fun k (hk:k<fs.length) (h1:fs[k].bytes≠⟨#[]⟩) (h2:fs[k].Ac=(a:Int))=>show Ww fs (a:Int)=some k from nO hk ⟨h1,h2⟩ fun j hj bs hc=>hW.ds j k hj hk (by omega) hc.1 h1 (hc.2.trans h2.symm));have a6:=qK hW;have P:=Hq (fun W (e:Int) (D:Bw w W)=>show X=(⟨s,fs,e⟩,⟨#[]⟩)→rZ X w (.returned (.tuple #[Ag s p,"",e])) W from fun he=>by rw[he];exact⟨p,rfl,h.below D,D⟩);have ae:=Hq (fun(Y:Px×ByteArray) (he:X=Y) w' (q:SP) (hp:Ao w' Y.1.s q Y.1.fs) (D:Bw w w')=>show rZ X w (.returned (.tuple #[Ag Y.1.s q,Y.2,Y.1.e])) w' from by rw[he];exact⟨q,rfl,hp,D⟩);have ah:=Hq (fun k (ha:Ww fs (a:Int)=some k) (hk:k<fs.length)=>show X=(⟨s,fs.set k {fs[k]with mark:=true},0⟩,fs[k].bytes)from by
   have e:Bf s fs (a:Int)=(⟨s,fs.set k {fs[k]with mark:=true},0⟩,k):=(by unfold Bf;rw[if_neg (fun hn=>hn hh),ha];simp only;rw[Cg hk]);rw[hX];unfold Mq;rw[e];simp only;rw[if_pos trivial,Cg (by rw[List.length_set];exact hk),List.getElem_set_self])
  have R:=Hq (fun(ha:Ww fs (a:Int)=none) (hl:¬ (Es s (a:Int)).2=0)=>show X=(⟨s,fs,(Es s (a:Int)).2⟩,⟨#[]⟩)from by
   have e:Bf s fs (a:Int)=(⟨s,fs,(Es s (a:Int)).2⟩,0):=(by unfold Bf;rw[if_neg (fun hn=>hn hh),ha];simp only;rw[if_pos hl]);rw[hX];unfold Mq;rw[e];simp only;rw[if_neg hl])
  have d:=Hq (fun(ha:Ww fs (a:Int)=none) (hl:(Es s (a:Int)).2=0) (hr:¬ (Bl s fs).1.e=0)=>show X=(Gz s fs (Bl s fs).1,⟨#[]⟩)∧(Gz s fs (Bl s fs).1).e=(Bl s fs).1.e from by
   have e:Bf s fs (a:Int)=(Gz s fs (Bl s fs).1,0):=(by unfold Bf;rw[if_neg (fun hn=>hn hh),ha];simp only;rw[if_neg (fun hn=>hn hl),if_neg hr]);have e2:(Gz s fs (Bl s fs).1).e=(Bl s fs).1.e:=(by unfold Gz;split<;>rfl);refine⟨?_,e2⟩;rw[hX];unfold Mq;rw[e];simp only;rw[if_neg (by rw[e2];exact hr)])
  have z:=Hq (fun(ha:Ww fs (a:Int)=none) (hl:(Es s (a:Int)).2=0) (hr:(Bl s fs).1.e=0)=>show X=(⟨(Bl s fs).1.s,(Bl s fs).1.fs.set (Bl s fs).2 ⟨(a:Int),(Es s (a:Int)).1,0,true,0⟩,0⟩,(Es s (a:Int)).1)from by
   have e:Bf s fs (a:Int)=(⟨(Bl s fs).1.s,(Bl s fs).1.fs.set (Bl s fs).2 ⟨(a:Int),(Es s (a:Int)).1,0,true,0⟩,0⟩,(Bl s fs).2):=(by unfold Bf;rw[if_neg (fun hn=>hn hh),ha];simp only;rw[if_neg (fun hn=>hn hl),if_pos hr]);rw[hX];unfold Mq;rw[e];simp only;rw[if_pos trivial,Cg (by rw[List.length_set];exact a6.2),List.getElem_set_self])
  clear hX hW hh h av L ar;generalize rZ X w=Q at P ae ⊢;generalize Es s (a:Int)=l at Z R d z;obtain⟨lb,le⟩:=l;simp only at Z R d z;have m:=Hq (show Gz s fs (Bl s fs).1=if(Bl s fs).1.e=0∨(Bl s fs).1.e=20 then(Bl s fs).1 else⟨s,fs,(Bl s fs).1.e⟩from rfl);generalize Gz s fs (Bl s fs).1=bk at d m;generalize Bl s fs=r at O d z a6 m;obtain⟨⟨xs,ax,xe⟩,xk⟩:=r;simp only at O d z a6 m;go_enter Tryz.func96,Tryz.ntmps96;go_upto_region 1 with fail;have H0:=Hp w (Aj s p) 36 #[(),(),(),'s',(),false,(),(),(),(),"",'s',(),'s',()] 36;obtain⟨W0,a7⟩:=Ee H0;rw[← a7]at H0 ⊢;clear a7
  go_upto_region 3 with(first|with_reducible refine lL H0.out.Ai Ar ?_|(go_at_call 168;refine(V.out _).mono ?_;rintro e w1 ⟨rfl,af⟩;have H1:=Hq (H0.out.step af)))
  go_upto_region 4 with(first|with_reducible refine lL H1.out.Ai Ar ?_|(go_at_call 51;refine(aw.out _ H1.out.below).mono ?_;rintro e w2 ⟨bd,ay⟩;have H2:=Hq (H1.out.step ay);clear af ay H0 H1 V aw;rcases bd with⟨rfl,hq⟩|⟨k,hk,rfl,az,b0⟩))
  ·have bt:¬ (0:Int)≤-1:=by decide
   have ai:=Hq (show Ww fs (a:Int)=none from nN fun x hx hc=>by
    obtain⟨j,hj,rfl⟩:=List.getElem_of_mem hx;exact hq j hj hc.1 hc.2)
   clear hq a1 ah ag
   go_upto_region 9 with(first|with_reducible refine lL H2.out.Ai Ar ?_|(go_at_call 170;refine(Z.out _ H2.out.below).mono ?_;rintro e w3 ⟨rfl,b1⟩;have H3:=Hq (H2.out.step b1)))
   clear b1 H2 Z
   by_cases T:le=0
   ·have bf:(le != 0)=false:=by rw[T];rfl
    have b2:=Hq T;clear T R
    go_upto_region 12 with(first
     |with_reducible refine lL H3.out.Ai Ar ?_
     |(go_at_call 171;refine(O.out _ H3.out.below).mono ?_;rintro e w4 ⟨q,rfl,b3,aj⟩)
     |with_reducible refine sN (Aj xs q) ?_)
    have a8:=aj.trans ((Ab w4 (.cells (Aj xs q) 36)).mono aj.size);have H5:=Hq (H3.out.step a8);have o:=Hq (heap_alloc_new w4 (.cells (Aj xs q) 36));have U:=Hq (fun hx=>(b3 hx).below (Ab w4 (.cells (Aj xs q) 36)));obtain⟨g,hg⟩:=ex w4.heap.size;obtain⟨w5,A⟩:=ex (w4.alloc (.cells (Aj xs q) 36));rw[← hg,← A]at o;rw[← A]at H5 U;rw[← A,← hg];clear A hg aj a8 H3 O b3
    try simp only[Act.put]
    by_cases C:xe=0
    ·have bg:(xe != 0)=false:=by rw[C];rfl
     have c:=Hq (z.out ai.out b2.out C);have ak:=Hq (U.out (.inl C));clear C U d z m;have a1:=Hq (show ∀ W,Ao W xs q ax→_ from fun W hp=>Hd xs q ax a6.1 xk a6.2 ⟨(a:Int),lb,0,true,0⟩ W hp)
     go_wp2_with(first
      |with_reducible refine lL o.out Ar ?_
      |(go_at_call 169;refine(a1.out _ ak.out).mono ?_;rintro e w6 ⟨q6,rfl,an,E⟩;have G:=Hq (H5.out.step E))
      |with_reducible refine lS (Aj xs q6) G.out.Am ?_)
     refine rT3 lb () G.out.Am Ar ?_;exact ae.out _ c.out _ q6 (an.other (t:=36) G.out.Am (by decide) (by decide) (by decide) _) (G.out.row 1 (Aj xs q6) _ rfl).below
    ·have bg:(xe != 0)=true:=by rw[bne_iff_ne];exact C
     obtain⟨b4,b5⟩:=d.out ai.out b2.out C;have c:=Hq b4;clear z d b4
     by_cases H:xe=20
     ·have ao:=Hq (fun W=>show Cr 172 #[Ag s p,Ag xs q,xe] W (Ag xs q) from by
       have h0:=Td s p xs q xe W;rw[if_pos H]at h0;exact h0)
      have ak:=Hq (U.out (.inr H));have aa:=m.out;rw[if_pos (.inr H)]at aa;subst aa;clear C H U m b5
      go_wp2_with(first
       |with_reducible refine lL H5.out.Ai Ar ?_
       |with_reducible refine lL o.out Ar ?_
       |(go_at_call 172;refine(ao.out _).mono ?_;rintro e w6 ⟨rfl,E⟩;have G:=Hq (H5.out.step E))
       |with_reducible refine lS (Aj xs q) G.out.Am ?_)
      refine rT3 "" xe G.out.Am Ar ?_;exact ae.out _ c.out _ q ((ak.out.below E).other (t:=36) G.out.Am (by decide) (by decide) (by decide) _) (G.out.row 1 (Aj xs q) _ rfl).below
     ·have ao:=Hq (fun W=>show Cr 172 #[Ag s p,Ag xs q,xe] W (Ag s p) from by
       have h0:=Td s p xs q xe W;rw[if_neg H]at h0;exact h0)
      have aa:=m.out;rw[if_neg (fun h=>h.elim C H)]at aa;subst aa;clear C H U m b5
      go_wp2_with(first
       |with_reducible refine lL H5.out.Ai Ar ?_
       |with_reducible refine lL o.out Ar ?_
       |(go_at_call 172;refine(ao.out _).mono ?_;rintro e w6 ⟨rfl,E⟩;have G:=Hq (H5.out.step E))
       |with_reducible refine lS (Aj s p) G.out.Am ?_)
      refine rT3 "" xe G.out.Am Ar ?_;exact P.out _ xe (G.out.row 1 (Aj s p) _ rfl).below c.out
   ·have bf:(le != 0)=true:=by rw[bne_iff_ne];exact T
    have c:=Hq (R.out ai.out T);clear T R d z O m
    go_wp2_with(first|with_reducible refine lL H3.out.Ai Ar ?_|with_reducible refine lS (Aj s p) H3.out.Am ?_)
    refine rT3 "" le H3.out.Am Ar ?_;exact P.out _ le (H3.out.row 1 (Aj s p) _ rfl).below c.out
  ·have bu:(0:Int)≤(k:Int):=by omega
   have bw:(k:Int)<(fs.length:Int):=(by omega);have c:=Hq (ah.out k (ag.out k hk az b0) hk);have hc:=show w2.cell? ⟨w.heap.size,11,none⟩=some (.slice p.F fs.length p.fc)from(by rw[Aa H2.out.Ai,← bc.out];rfl);obtain⟨b,off,b6,bh,bj,I⟩:=Bu Dh (HP.out.fr.below H2.out.below) hk;obtain⟨f,b7⟩:=ex (fs[k]);rw[← b7]at I c;rw[b6]at hc;have b8:=Hq (show w2.rangeAt b (off+k*5) (Ib f)from I);clear I bh bj b6 b7 az b0 Z O ah R d z m ag
   go_upto_region 6 with(first
    |(refine Cw Kr fun K hK=>wp_load_mid 116 (.tmp 28) rfl b (off+k*5) rfl (Ib f) _ b8.out Fw Kr Kr (hK _ _ ?_))
    |with_reducible refine sN (Er f) ?_)
   have a8:=Ab w2 (.cells (Er f) 116);have H5:=Hq (H2.out.step a8);have o:=Hq (heap_alloc_new w2 (.cells (Er f) 116));have bl:w.heap.size+1<w2.heap.size:=H2.out.lt (i:=1) (by simp);obtain⟨g,hg⟩:=ex w2.heap.size;obtain⟨w5,A⟩:=ex (w2.alloc (.cells (Er f) 116));rw[← hg,← A]at o;rw[← A]at H5;rw[← A,← hg];rw[← hg]at bl;clear A hg a8 H2 hc b8
   try simp only[Act.put]
   have bm:=show w5.cell? ⟨g,3,none⟩=some (.bool f.mark)from(by rw[Aa o.out];rfl);have bn:=Ap o.out 3;go_upto_region 7 with fail;have b9:=Hq (show(w5.setCell ⟨g,3,none⟩ (.bool true)).heap[g]? =some (.cells (Er {f with mark:=true}) 116 (0,0))from by have:=Cb 3 o.out (.bool true);simpa using this);have G:=Hq (H5.out.under (M:=g) (by simp;omega) ((Below.refl _ w5).setCell (p:=⟨g,3,none⟩) (Nat.le_refl _) (.bool true)));generalize w5.setCell ⟨g,3,none⟩ (.bool true)=w6 at b9 G ⊢;clear bm bn o H5;have bo:=Hq (fun W D=>a1.out k hk {f with mark:=true} W D);clear a1
   try simp only[Act.put]
   go_cut [5,6] (fun x y wc=>x= .string f.bytes∧y= .int .i64 0∧∃ q:SP,wc.heap[w.heap.size+1]? =some (.cells (Aj s q) 36 (0,0))∧Ao wc s q (fs.set k {f with mark:=true})∧Bw w wc)
   case first=>
    have hSn:w6.drew.heap[w.heap.size]? =some (.cells (Aj s p) 36 (0,0))∧w6.drew.heap[g]? =some (.cells (Er {f with mark:=true}) 116 (0,0)):=⟨G.out.Ai,b9.out⟩;have H9:=G.out.drew;have Hy:=Hq (fun(u:World) (bp:u.heap[w.heap.size]? =some (.cells (Aj s p) 36 (0,0))∧u.heap[g]? =some (.cells (Er {f with mark:=true}) 116 (0,0)))=>(show u.cell? ⟨g,1,none⟩=some (.string f.bytes)from(by rw[Aa bp.2];rfl)));refine Gd (S:=(fun u=>u.heap[w.heap.size]? =some (.cells (Aj s p) 36 (0,0))∧u.heap[g]? =some (.cells (Er {f with mark:=true}) 116 (0,0)))) (fun J=>?_);generalize w6.drew=w9 at hSn H9 ⊢;refine Nk 0 Ar ?_;refine Au 1 ?_;refine Nk 2 Fw ?_;refine Au 4 ?_;refine Au 5 ?_;refine Ch 3 fun K hK=>?_
    go_simp
    (refine(bo.out _ H9.below).mono ?_);rintro e w7 ⟨q,rfl,bq,aq⟩;have H8:=H9.step aq;have ad:=And.intro (Ae hSn.1 aq) (Ae hSn.2 aq);clear hSn;have hSn:=ad;clear ad
    refine Bq hK (fun J=>?_);clear hK K;refine Ch 6 fun K hK=>?_;refine Ay (by rfl) ?_;refine sW (Aj s q) H8.Am ?_;have ba:=H8.row 1 (Aj s q) _ rfl;have bb:=bq.other (t:=36) H8.Am (by decide) (by decide) (by decide) (Aj s q);have ad:=And.intro ((Ah _ _ (Aj s q) _ (show w.heap.size≠w.heap.size+1 by omega)).trans hSn.1) ((Ah _ _ (Aj s q) _ (show g≠w.heap.size+1 by omega)).trans hSn.2);clear hSn;have hSn:=ad;clear ad;refine Bq hK (fun J=>?_);clear hK K;refine Au 7 ?_;refine Au 8 ?_;refine wpAnyH_done Kr ?_ _;clear J;go_wp2_with fail;go_meet
    case rel=>exact⟨rfl,rfl,q,ba.Am,bb,ba.below⟩
   case rest=>
    obtain⟨rfl,rfl,q,br,an,E⟩:=hcut;go_wp2_with fail;refine bodyPost_ret (v:=.tuple #[.agg (Aj s q),f.bytes,()]) (Mr rfl _ _ rfl (Ci br Ar Kr Kr) rfl rfl) rfl ?_;exact ae.out _ c.out _ q an E
 ·rw[decide_eq_false L]at V
  have c:=Hq (show X=(⟨s,fs,1⟩,⟨#[]⟩)from by
   have e:Bf s fs pg=(⟨s,fs,1⟩,0):=(by unfold Bf;rw[if_pos (show ¬ Nd s pg from L)]);rw[hX];unfold Mq;rw[e];simp only;rw[if_neg (by decide)])
  have P:=Hq (fun W (D:Bw w W)=>show rZ X w (.returned (.tuple #[Ag s p,"",.int .i64 1])) W from by rw[c.out];exact⟨p,rfl,h.below D,D⟩);generalize rZ X w=Q at P ⊢;clear hX hW h L av ar c;go_enter Tryz.func96,Tryz.ntmps96;go_upto_region 1 with fail;have H0:=Hp w (Aj s p) 36 #[(),(),(),'s',(),false,(),(),(),(),"",'s',(),'s',()] 36;obtain⟨W0,a7⟩:=Ee H0;rw[← a7]at H0 ⊢;clear a7
  go_upto_region 2 with(first|with_reducible refine lL H0.out.Ai Ar ?_|(go_at_call 168;refine(V.out _).mono ?_;rintro e w1 ⟨rfl,af⟩;have H1:=Hq (H0.out.step af)))
  go_wp2_with(first|with_reducible refine lL H1.out.Ai Ar ?_|with_reducible refine lS (Aj s p) H1.out.Am ?_)
  refine rT3 "" (.int .i64 1) H1.out.Am Ar ?_;exact P.out _ (H1.out.row 1 (Aj s p) _ rfl).below
end Go.Proofs.YtmldoihahndcgaaGreatDoor
