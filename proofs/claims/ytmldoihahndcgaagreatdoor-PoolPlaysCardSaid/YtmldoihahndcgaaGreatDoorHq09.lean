import Derived.Test.YtmldoihahndcgaaGreatDoorHq00
import Derived.Test.YtmldoihahndcgaaGreatDoorHq07
import Derived.Test.YtmldoihahndcgaaGreatDoorHq08
import Derived.Test.YtmldoihahndcgaaGreatDoorHq01
import Derived.Test.YtmldoihahndcgaaGreatDoorHq06
import Derived.Test.YtmldoihahndcgaaGreatDoorHq02
set_option maxRecDepth 100000
set_option maxHeartbeats 16000000
set_option linter.unusedSimpArgs false
namespace Go.Proofs.YtmldoihahndcgaaGreatDoor
open Go.RowKit Sc
theorem nM {α:Type}{enc:α→List Value}{k:Nat}{e:TypeId}{B g c:Nat}{w:World}{l:List α}(b:∀ x,(enc x).length=k)(q:E7 enc k e B w (.slice (some ⟨g,0,none⟩) l.length c) l)(i:Nat)(hi:i<l.length)(x:α)(j:Nat)(C:j<k)(v:Value)(s:∀ t,t<k→(enc x)[t]? =if t=j then some v else(enc l[i])[t]?):
 w.frozen? ⟨g,i*k+j,none⟩=false∧E7 enc k e B (w.setCell ⟨g,i*k+j,none⟩ v) (.slice (some ⟨g,0,none⟩) (l.set i x).length c) (l.set i x)∧Below B w (w.setCell ⟨g,i*k+j,none⟩ v):=by
 obtain⟨cur,d,D,f,m,u,y,n⟩:=Ia q;have z:i*k+k≤l.length*k:=by have:=Nat.mul_le_mul_right k (show i+1≤l.length from hi);rwa[Nat.add_mul,Nat.one_mul]at this
 have A:l.length*k≤c*k:=Nat.mul_le_mul_right _ m;refine⟨Ao f _,cA b d (Bs (i*k+j) f v) (by rw[List.length_set];exact m) u (by rw[Array.size_setIfInBounds];exact y) (fun t h=>?_),(show Below B w w from⟨rfl,rfl,rfl,Nat.le_refl _,fun _ _=>rfl⟩).setCell (p:=⟨g,i*k+j,none⟩) d v⟩;rw[List.length_set]at h;rw[Y3 b l i hi x t,Array.getElem?_setIfInBounds]
 by_cases a:i*k≤t∧t<i*k+k
 ·rw[if_pos a]
  obtain⟨r,rfl⟩:∃ r,t=i*k+r:=⟨t-i*k,by omega⟩;rw[Nat.add_sub_cancel_left,s r (by omega)]
  by_cases o:r=j
  ·subst o;rw[if_pos rfl,if_pos (by omega),if_pos rfl]
  ·rw[if_neg (by omega),if_neg o,n _ h,Hu b l i r hi (by omega)]
 ·rw[if_neg a,if_neg (by omega),n t h]
def Uz (s:Tx.St)(n:Nat)(o:Option (Nat×List Fr))(w:World)(e:Ending)(w':World):Prop:=
 (∃ (k:Nat) (fs':List Fr) (q:SP) (x:Int),o=some (k,fs')∧x=(((k+1)%n:Nat):Int)∧e= .returned (.tuple #[Af {s with hand:=x} q,.int .i64 (k:Int)])∧An w' {s with hand:=x} q fs'∧Bw w w')∨
 (o=none∧∃ q:SP,e= .returned (.tuple #[Af s q,.int .i64 (-1)])∧Bw w w')
theorem eZ {n j a:Nat}{fs:List Fr}(b:a<fs.length)(h:0<fs[a].pins):E2 n (j+1) a fs=E2 n j ((a+1)%n) fs:=by
 show(if 0<(Cp fs a).pins then _ else _)=_
 rw[Br b,if_pos h]
theorem Y6 {n j a:Nat}{fs:List Fr}(b:a<fs.length)(h:¬ 0<fs[a].pins)(c:fs[a].mark=true):E2 n (j+1) a fs=E2 n j ((a+1)%n) (fs.set a {fs[a]with mark:=false}):=by
 show(if 0<(Cp fs a).pins then _ else if(Cp fs a).mark=true then _ else _)=_
 rw[Br b,if_neg h,if_pos c]
theorem fA {n j a:Nat}{fs:List Fr}(b:a<fs.length)(h:¬ 0<fs[a].pins)(c:fs[a].mark=false):E2 n (j+1) a fs=some (a,fs):=by
 show(if 0<(Cp fs a).pins then _ else if(Cp fs a).mark=true then _ else _)=_
 rw[Br b,if_neg h,if_neg (by rw[c];decide)]
theorem Wh (s:Tx.St)(p:SP)(fs:List Fr)(bm:1≤fs.length∧fs.length≤64)(a1:0≤s.hand∧s.hand≤64)(ak:∀ i (hi:i<fs.length),0≤fs[i].pins∧fs[i].pins≤1000000)(w:World)(h:An w s p fs):
 Cq 212 #[Af s p] w (Uz s fs.length (E2 fs.length (2*fs.length) (s.hand.toNat%fs.length) fs) w):=by
 have HP:=Hq h;have al:=Hq h.fn;have an:=Hq (fun W (hb:Bw w W)=>Sx fs (by omega) p.F p.fc W (h.fr.below hb));obtain⟨V,hV⟩:=ex (E2 fs.length (2*fs.length) (s.hand.toNat%fs.length) fs);rw[← hV];have ao:=Hq (fun(k:Nat) (fs':List Fr) (q:SP) w' (hv:V=some (k,fs')) (hp:An w' {s with hand:=(((k+1)%fs.length:Nat):Int)} q fs') (hb:Bw w w')=>show Uz s fs.length V w (.returned (.tuple #[Af {s with hand:=(((k+1)%fs.length:Nat):Int)} q,.int .i64 (k:Int)])) w' from .inl ⟨k,fs',q,_,hv,rfl,rfl,hp,hb⟩);have aq:=Hq (fun(q:SP) w' (hv:V=none) (hb:Bw w w')=>show Uz s fs.length V w (.returned (.tuple #[Af s q,.int .i64 (-1)])) w' from .inr ⟨hv,q,rfl,hb⟩);have HV:=Hq hV.symm;clear hV;generalize Uz s fs.length V w=Q at ao aq ⊢;have ar:=Hq ak;clear h ak;have bn:((fs.length:Int)==0)=false:=beq_eq_false_iff_ne.2 (by omega);have b5:(fs.length:Int)≠0:=by omega
 have b6:(0:Int)<(fs.length:Int):=by omega
 obtain⟨m,hm⟩:=ex (Int.tmod s.hand (fs.length:Int));have bo:0≤m∧m<(fs.length:Int):=by rw[hm];exact⟨Int.tmod_nonneg _ a1.1,Int.tmod_lt_of_pos _ b6⟩
 have bp:Int.tmod s.hand (fs.length:Int)=m:=hm.symm;have bq:IntKind.i64.wrap m=m:=IntWalk.i64_in _ (by omega);have br:IntKind.i64.wrap (m+(fs.length:Int))=m+(fs.length:Int):=IntWalk.i64_in _ (by omega);obtain⟨a,ha⟩:=ex (s.hand.toNat%fs.length:Nat);have b7:a<fs.length:=by rw[ha];exact Nat.mod_lt _ (by omega)
 have bs:(a:Int)<(fs.length:Int):=by omega
 have bt:Int.tmod (m+(fs.length:Int)) (fs.length:Int)=(a:Int):=by
  rw[hm,Int.tmod_eq_emod_of_nonneg a1.1,Int.tmod_eq_emod_of_nonneg (by have:=Int.emod_nonneg s.hand b5;omega),Int.add_emod_right,Int.emod_emod_of_dvd _ (Int.dvd_refl _),ha,Int.natCast_emod,Int.toNat_of_nonneg a1.1]
 have bu:IntKind.i64.wrap (a:Int)=(a:Int):=IntWalk.i64_in _ (by omega);have bw:IntKind.i64.wrap (2*(fs.length:Int))=2*(fs.length:Int):=IntWalk.i64_in _ (by omega);have a6:=HV;rw[← ha]at a6;clear hm ha HV;go_enter Tryz.func212,Tryz.ntmps212;go_upto_region 1 with fail;have U:=Il w (Ai s p) 36 #[(),(),(),'s',(),false,(),(),(),(),"",'s',(),'s',()] 36;obtain⟨W0,au⟩:=Dr U;rw[← au]at U ⊢;clear au;have hc:=show W0.cell? ⟨w.heap.size,11,none⟩=some (.slice p.F fs.length p.fc)from by rw[Aa U.out.Ag,← al.out];rfl
 go_upto_region 3 with(go_at_call 207;refine(an.out _ U.out.below).mono ?_;rintro e w1 ⟨v,rfl,ho,A⟩;obtain⟨g,c2,rfl,b8⟩:=Ol ho (by omega);have H1:=Hq (U.out.step A);have H:=show w1.cell? ⟨w.heap.size,11,none⟩=some (.slice p.F fs.length p.fc)from(by rw[Aa H1.out.Ag,← al.out];rfl);have I:=Ao H1.out.Ag 11)
 have a7:w.heap.size<W0.heap.size:=by have:=U.out.lt (i:=0) (by simp);omega
 have hM:w.heap.size+2≤W0.heap.size:=U.out.lt (i:=1) (by simp);have H2:=Hq (show Dm w.heap.size w [((Ai s {p with F:=some ⟨g,0,none⟩,fn:=fs.length,fc:=c2}),36),(#[(),(),(),'s',(),false,(),(),(),(),"",'s',(),'s',()],36)] (w1.setCell ⟨w.heap.size,11,none⟩ (.slice (some ⟨g,0,none⟩) fs.length c2))from by have h:=H1.out.set 0 11 (.slice (some ⟨g,0,none⟩) fs.length c2) _ rfl;simpa using h);have O:=Hq (Ja ho ⟨w.heap.size,11,none⟩ (.slice (some ⟨g,0,none⟩) fs.length c2) a7);generalize w1.setCell ⟨w.heap.size,11,none⟩ (.slice (some ⟨g,0,none⟩) fs.length c2)=w2 at H2 O ⊢;have bx:=show w2.cell? ⟨w.heap.size,12,none⟩=some (.int .i64 s.hand)from by rw[Aa H2.out.Ag];rfl
 clear hc H I H1 U an ho A;generalize W0.heap.size=B at O b8 a7 hM
 try simp only[Act.put]
 go_wp2_with fail
 go_loopw [34,5] (fun i x wr=>∃ (j a':Nat) (fs':List Fr),j≤2*fs.length∧i= .int .i64 (j:Int)∧x= .int .i64 (a':Int)∧a'<fs.length∧fs'.length=fs.length∧(∀ t (ht:t<fs'.length),0≤fs'[t].pins∧fs'[t].pins≤1000000)∧E2 fs.length (2*fs.length-j) a' fs'=V∧Dm w.heap.size w [((Ai s {p with F:=some ⟨g,0,none⟩,fn:=fs.length,fc:=c2}),36),(#[(),(),(),'s',(),false,(),(),(),(),"",'s',(),'s',()],36)] wr∧wr.ownsRow B 116 5 (.slice (some ⟨g,0,none⟩) fs.length c2) fs.length (fs'.flatMap F4)) (fun i _ _=>2*fs.length-(intOf i).toNat)
 case atStart=>exact⟨0,a,fs,Nat.zero_le _,rfl,rfl,b7,rfl,ar.out,by rw[Nat.sub_zero];exact a6.out,H2.out,O.out⟩
 case round=>
  clear ar a6 H2 O;obtain⟨k,q,fs',hk,rfl,rfl,bz,C,l,c,P,a8⟩:=hrel;have c6:(0:Int)≤(k:Int):=by omega
  by_cases X:k<2*fs.length
  ·obtain⟨j2,av⟩:∃ j2,2*fs.length-k=j2+1:=⟨2*fs.length-k-1,by omega⟩
   have aw:2*fs.length-(k+1)=j2:=(by omega);rw[av]at c;have b9:(k:Int)<2*(fs.length:Int):=(by omega);have c7:IntKind.i64.wrap ((k:Int)+1)=(k:Int)+1:=IntWalk.i64_in _ (by omega);have Y:q<fs'.length:=(by omega);have aa:E7 F4 5 116 B wr (.slice (some ⟨g,0,none⟩) fs'.length c2) fs':=(by unfold E7;rw[C];exact a8);have o:=Hq P;have HO:=Hq aa;have ax:=Hq l;have z:=l q Y;have ad:(q+1)%fs.length<fs.length:=Nat.mod_lt _ (by omega);have ba:Int.tmod ((q:Int)+1) (fs.length:Int)=(((q+1)%fs.length:Nat):Int):=Int.tmod_eq_emod_of_nonneg (by omega);have D:=Hq (fun(h:0<fs'[q].pins)=>(eZ (n:=fs.length) (j:=j2) Y h).symm.trans c);have E:=Hq (fun(h:¬ 0<fs'[q].pins) (h2:fs'[q].mark=true)=>(Y6 (n:=fs.length) (j:=j2) Y h h2).symm.trans c);have J:=Hq (fun(h:¬ 0<fs'[q].pins) (h2:fs'[q].mark=false)=>c.symm.trans (fA (n:=fs.length) (j:=j2) Y h h2));obtain⟨r,ae⟩:=ex ((q+1)%fs.length);rw[← ae]at ba ad D E;have bb:=Hq ae;clear ae c;obtain⟨b,off,u,bc,bd,d⟩:=Bi Cc (Dq aa) Y
   injection u with u
   injection u with A af _
   subst A af;rw[Nat.zero_add]at d;have ag:=Hq (show wr.rangeAt g (q*5) (F4 fs'[q])from d);obtain⟨f,ah⟩:=ex (fs'[q]);rw[← ah]at ag z D E J;have ay:=Hq ah;have HL:=Hq C;have bl:(0:Int)≤(q:Int):=(by omega);have c8:(q:Int)<(fs.length:Int):=(by omega);have ca:IntKind.i64.wrap ((q:Int)+1)=(q:Int)+1:=IntWalk.i64_in _ (by omega);have cb:IntKind.i64.wrap (r:Int)=(r:Int):=IntWalk.i64_in _ (by omega);have cc:=Hq (show(0:Int)≤(r:Int)∧(r:Int)≤64 from by omega);have HJ:=Hq aw;clear P a8 aa d bc ah C bd l av aw X
   go_upto_region 9 with(first
    |(refine Bt Kr fun K hK=>wp_load_mid 116 (.tmp 38) rfl g (q*5) rfl (F4 f) _ ag.out Cw Kr Kr (hK _ _ ?_))
    |with_reducible refine sN (Cg f) ?_)
   have H5:=Hq (o.out.step (Ad wr (.cells (Cg f) 116)));have R:=Hq (heap_alloc_new wr (.cells (Cg f) 116));have L:=Hq (Cm HO.out (Ad wr (.cells (Cg f) 116)));obtain⟨g6,hg⟩:=ex wr.heap.size;obtain⟨Z,S⟩:=ex (wr.alloc (.cells (Cg f) 116));rw[← hg,← S]at R;rw[← S]at H5 L;rw[← S,← hg];clear S hg o ag HO
   try simp only[Act.put]
   have az:=show Z.cell? ⟨g6,2,none⟩=some (.int .i64 f.pins)from by rw[Aa R.out];rfl
   by_cases G:0<f.pins
   ·have bf:¬ f.pins≤0:=by omega
    have bg:=Hq (D.out G);clear G z D E J;go_wp2_with fail;go_roundw
    case rel=>
     have h6:=L.out;have C:=HL.out;unfold E7 at h6;rw[C]at h6;exact⟨k+1,r,fs',by omega,by go_num,rfl,ad,C,ax.out,by rw[HJ.out];exact bg.out,H5.out,h6⟩
    case measure=>simp[intOf];omega
   ·have bf:f.pins≤0:=by omega
    cases y:f.mark with
    |false=>
     have ai:=show Z.cell? ⟨g6,3,none⟩=some (.bool false)from(by rw[Aa R.out,← y];rfl);have H:=show Z.cell? ⟨w.heap.size,12,none⟩=some (.int .i64 s.hand)from(by rw[Aa H5.out.Ag];rfl);have I:=Ao H5.out.Ag 12;have bh:=Hq (J.out G y);clear y z G D E J;go_upto_region 12 with fail;have H6:=Hq (show Dm w.heap.size w [((Ai {s with hand:=((r:Nat):Int)} {p with F:=some ⟨g,0,none⟩,fn:=fs.length,fc:=c2}),36),(#[(),(),(),'s',(),false,(),(),(),(),"",'s',(),'s',()],36)] (Z.setCell ⟨w.heap.size,12,none⟩ (.int .i64 (r:Int)))from by have h:=H5.out.set 0 12 (.int .i64 (r:Int)) _ rfl;simpa using h);have N:=Hq (Ja L.out ⟨w.heap.size,12,none⟩ (.int .i64 (r:Int)) a7);generalize Z.setCell ⟨w.heap.size,12,none⟩ (.int .i64 (r:Int))=w6 at H6 N ⊢;clear az ai H I
     go_wp2_with(first|with_reducible refine lL H6.out.Ag Ak ?_|(with_reducible refine lS (Ai {s with hand:=((r:Nat):Int)} {p with F:=some ⟨g,0,none⟩,fn:=fs.length,fc:=c2}) H6.out.Ah ?_))
     refine rT2 (.int .i64 (q:Int)) H6.out.Ah Ak ?_;have HB:=(H6.out.row 1 (Ai {s with hand:=((r:Nat):Int)} {p with F:=some ⟨g,0,none⟩,fn:=fs.length,fc:=c2}) _ rfl).below;have T:=HP.out.below HB;have aj:=I3 N.out (w.heap.size+1) (Ai {s with hand:=((r:Nat):Int)} {p with F:=some ⟨g,0,none⟩,fn:=fs.length,fc:=c2}) (by omega);have C:=HL.out;have b0:=ao.out q fs' {p with F:=some ⟨g,0,none⟩,fn:=fs.length,fc:=c2} (w6.setRow (w.heap.size+1) (Ai {s with hand:=((r:Nat):Int)} {p with F:=some ⟨g,0,none⟩,fn:=fs.length,fc:=c2})) bh.out;rw[← bb.out]at b0;refine b0 ⟨⟨T.st.dk,T.st.dt,T.st.tx,T.st.tt⟩,C.symm,?_,(C4.own aj).mono (Nat.zero_le _)⟩ HB;rw[C];rw[C]at aj;exact Dq aj
    |true=>
     have ai:=show Z.cell? ⟨g6,3,none⟩=some (.bool true)from(by rw[Aa R.out,← y];rfl);obtain⟨I,b1,b2⟩:=nM Cc L.out q Y {fs'[q]with mark:=false} 3 (by decide) (.bool false) (by
      intro t ht;have:t=0∨t=1∨t=2∨t=3∨t=4:=(by omega);rcases this with rfl|rfl|rfl|rfl|rfl<;>rfl)
     have H:Z.cell? ⟨g,q*5+3,none⟩=some (.bool true):=by
      obtain⟨b,off,u,_,_,d⟩:=Bi Cc (Dq L.out) Y
      injection u with u
      injection u with A af _
      subst A af;have h3:=d 3 (.bool true) (by rw[← ay.out,← y];rfl);rw[Nat.zero_add]at h3;exact h3
     have bj:=Hq (E.out G y);clear y z G D E J;go_upto_region 15 with fail;have H6:=Hq (H5.out.under (M:=B) (by simp;omega) b2);have N:=Hq b1;generalize Z.setCell ⟨g,q*5+3,none⟩ (.bool false)=w6 at H6 N ⊢;clear az ai H I b1 b2
     try simp only[Act.put]
     go_wp2_with fail;go_roundw
     case rel=>
      have h6:=N.out;have hv:=bj.out;have b3:=ax.out;have C:=HL.out;rw[ay.out]at hv;generalize hF:fs'.set q {fs'[q]with mark:=false}=F2 at hv h6;have b4:F2.length=fs.length:=(by rw[← hF,List.length_set];exact C);unfold E7 at h6;rw[b4]at h6;refine⟨k+1,r,F2,by omega,by go_num,rfl,ad,b4,fun t ht=>?_,by rw[HJ.out];exact hv,H6.out,h6⟩;subst hF;rcases Pu fs' q {fs'[q]with mark:=false} t ht with⟨_,e⟩|⟨_,h9,e⟩
      ·rw[e];exact b3 q Y
      ·rw[e];exact b3 t h9
     case measure=>simp[intOf];omega
  ·obtain rfl:k=2*fs.length:=by omega
   have o:=Hq P;rw[Nat.sub_self]at c;have bk:=Hq (show V=none from c.symm);have b9:¬ (((2*fs.length:Nat):Int)<2*(fs.length:Int)):=(by omega);clear P a8 l c X C
   go_wp2_with(first|with_reducible refine lL o.out.Ag Ak ?_|with_reducible refine lS (Ai s {p with F:=some ⟨g,0,none⟩,fn:=fs.length,fc:=c2}) o.out.Ah ?_)
   refine rT2 (.int .i64 (-1)) o.out.Ah Ak ?_;exact aq.out {p with F:=some ⟨g,0,none⟩,fn:=fs.length,fc:=c2} _ bk.out (o.out.row 1 (Ai s {p with F:=some ⟨g,0,none⟩,fn:=fs.length,fc:=c2}) _ rfl).below
def U0 (x:Lg.Dk×Int)(w:World)(e:Ending)(w':World):Prop:=∃ (A:Option Addr) (c:Nat),e= .returned (.tuple #[Cd x.1 A c,x.2])∧By w' x.1 A c∧C4 0 w' 9 A∧Bw w w'
theorem Y7 {M:Nat}(d:Lg.Dk)(hd:Mp M d)(A:Option Addr)(c:Nat)(a:Nat)(b3:a+4≤M)(hM:M≤100000)(b:ByteArray)(hb:b.size=512)(w:World)(h:By w d A c)(hT:C4 0 w 9 A):
 Cq 231 #[Cd d A c,.int .i64 (a:Int),b] w (U0 (E0 d a b 4) w):=by
 have hlen:=hd.len;have P:=Hq (fun W=>Y5 d A c a (by omega) h.small W);have aj:=Hq (fun(k:Nat) (B:Option Addr) (cc:Nat) W (hr:By W (E0 d a b k).1 B cc)=>show Cq 284 #[Cd (E0 d a b k).1 B cc,.int .i64 ((a:Int)+(k:Int)),.string (Kk b k)] W (Eg (Lg.Cl (E0 d a b k).1 ((a:Int)+(k:Int)) (Kk b k)) B W)from Sa (E0 d a b k).1 (hd.E0 a b k).lb B cc ((a:Int)+(k:Int)) (Kk b k) W hr);have b4:=Hq (fun(k:Nat)=>eW (b:=b) k);have HR:=Hq (show By w (E0 d a b 0).1 A c from h);have HT:=Hq hT;dsimp only[Cd]at P;have F:=aj;dsimp only[Cd]at F;have R:=Hq (fun(k:Nat) (hk:k<4) (h0:(E0 d a b k).2=0)=>show E0 d a b (k+1)=Lg.Cl (E0 d a b k).1 ((a:Int)+(k:Int)) (Kk b k)from Kl h0);have T:=Hq (fun(k:Nat) (hk:k≤4) (h0:¬ (E0 d a b k).2=0)=>show E0 d a b 4=E0 d a b k from by have:=Hr h0 (4-k);rwa[show k+(4-k)=4 by omega]at this);have U:=Hq (fun k=>(hd.E0 a b k).len);have V:=Hq (fun(b5:d.down=true)=>show E0 d a b 4=(d,20)from by
  have e1:E0 d a b 1=(d,20):=by
   rw[Kl (k:=0) rfl]
   show Lg.Cl d _ _=_
   unfold Lg.Cl;rw[if_pos b5]
  have h1:=Hr (d:=d) (a:=a) (b:=b) (k:=1) (by rw[e1];exact(by decide:¬ (20:Int)=0)) 3;rw[h1];exact e1)
 have b8:a≤100000:=by omega
 show Cq 231 #[.agg #[.slice A (E0 d a b 0).1.sectors.length c,.int .i64 (E0 d a b 0).1.left,.bool (E0 d a b 0).1.down],.int .i64 (a:Int),b] w _
 have X:=Hq (fun W=>show Cr 258 #[.agg #[.slice A (E0 d a b 0).1.sectors.length c,.int .i64 (E0 d a b 0).1.left,.bool (E0 d a b 0).1.down],.int .i64 (a:Int)] W (.bool true) from P.out W);have Y:=Hq (show(E0 d a b 0).2=0 from rfl);have G:=Hq (show(E0 d a b 0).1=d from rfl);clear P aj h hT hd b3 hlen;generalize hD:E0 d a b=D at HR F X R T U Y V G ⊢;clear hD;have HQ:=Hq (fun(l:Option Addr) (c2:Nat) (w':World) (h1:By w' (D 4).1 l c2) (h2:C4 0 w' 9 l) (h3:Bw w w')=>show U0 (D 4) w (.returned (.tuple #[Cd (D 4).1 l c2,.int .i64 (D 4).2])) w' from⟨l,c2,rfl,h1,h2,h3⟩);generalize U0 (D 4) w=Q at HQ ⊢;go_enter Tryz.func231,Tryz.ntmps231;go_upto_region 1 with fail;have p:=Il w #[.slice A (D 0).1.sectors.length c,.int .i64 (D 0).1.left,.bool (D 0).1.down] 28 #['s',(),false] 28;obtain⟨W0,ak⟩:=Dr p;rw[← ak]at p ⊢;clear ak;have hz:(D 0).1.down=true∨(D 0).1.down=false:=by cases (D 0).1.down<;>simp
 rcases hz with hz|hz
 ·have hc:=show W0.cell? ⟨w.heap.size,2,none⟩=some (.bool true)from by rw[Aa p.out.Ag,← hz];rfl
  have h4:=V.out (by rw[← G.out];exact hz);have HZ:=Hq h4;clear hz h4
  go_wp2_with(first|with_reducible refine lL p.out.Ag Bz ?_|with_reducible refine lS #[.slice A (D 0).1.sectors.length c,.int .i64 (D 0).1.left,.bool (D 0).1.down] p.out.Ah ?_)
  refine rT2 (.int .i64 20) p.out.Ah Bz ?_;have N:=HQ.out A c (W0.setRow (w.heap.size+1) #[.slice A (D 0).1.sectors.length c,.int .i64 (D 0).1.left,.bool (D 0).1.down]);rw[HZ.out,← G.out]at N;exact N ⟨(HT.out.below p.out.below).Dj (HR.out.below p.out.below).secs p.out.Ah (by decide) _,(HR.out.below p.out.below).small⟩ ((HT.out.below p.out.below).row _ _) (p.out.row 1 #[.slice A (D 0).1.sectors.length c,.int .i64 (D 0).1.left,.bool (D 0).1.down] _ rfl).below
 ·have hc:=show W0.cell? ⟨w.heap.size,2,none⟩=some (.bool false)from by rw[Aa p.out.Ag,← hz];rfl
  have b6:((b.size:Int) != 512)=false:=by rw[hb];rfl
  clear hz V
  go_upto_region 5 with(first|with_reducible refine lL p.out.Ag Bz ?_|(go_at_call 258;(with_reducible refine(X.out _).mono ?_);rintro e w1 ⟨rfl,al⟩))
  have H1:=Hq (p.out.step al);have an:=Hq (HR.out.below H1.out.below);have ao:=Hq (HT.out.below H1.out.below);clear hc b6 X p al;go_wp2_with fail
  go_loopw [26] (fun i wr=>∃ (k:Nat) (l:Option Addr) (c2:Nat),k≤4∧i= .int .i64 (k:Int)∧(D k).2=0∧Dm w.heap.size w [(#[.slice l (D k).1.sectors.length c2,.int .i64 (D k).1.left,.bool (D k).1.down],28),(#['s',(),false],28)] wr∧By wr (D k).1 l c2∧C4 0 wr 9 l) (fun i _=>4-(intOf i).toNat)
  case atStart=>exact⟨0,A,c,by omega,rfl,Y.out,H1.out,an.out,ao.out⟩
  case round=>
   clear an ao H1 HR HT Y G;obtain⟨k,l,c2,hk,rfl,aq,ar,au,av⟩:=hrel;have q:=Hq ar;have Z:=Hq au;have H:=Hq av;have aw:=Hq aq;clear ar au av aq;have b9:(0:Int)≤(k:Int):=by omega
   by_cases a1:k<4
   ·have ba:(k:Int)<4:=by omega
    have bb:IntKind.i64.wrap ((k:Int)+1)=(k:Int)+1:=IntWalk.i64_in _ (by omega);have bc:IntKind.i64.wrap ((a:Int)+(k:Int))=(a:Int)+(k:Int):=IntWalk.i64_in _ (by omega);have bd:IntKind.i64.wrap ((k:Int)*128)=(k:Int)*128:=IntWalk.i64_in _ (by omega);have bf:IntKind.i64.wrap (((k:Int)+1)*128)=((k:Int)+1)*128:=IntWalk.i64_in _ (by omega);have bg:(0:Int)≤(k:Int)*128:=(by omega);have a6:(k:Int)*128≤((k:Int)+1)*128:=(by omega);have bh:((k:Int)+1)*128≤(b.size:Int):=(by omega);have bj:(0:Int)≤((k:Int)+1)*128:=(by omega);have bk:(k:Int)≤(k:Int)+1:=(by omega);have bl:((k:Int)+1)*128≤512:=(by omega);have bm:((k:Int)*128).toNat=k*128:=(by omega);have bn:(((k:Int)+1)*128).toNat=(k+1)*128:=(by omega);have hex:=b4.out k;have bo:(b.size:Int)=512:=(by omega);have m:=Hq (show ∀ W,Bw wr W→Cq 284 #[.agg #[.slice l (D k).1.sectors.length c2,.int .i64 (D k).1.left,.bool (D k).1.down],.int .i64 ((a:Int)+(k:Int)),.string (Kk b k)] W (Eg (Lg.Cl (D k).1 ((a:Int)+(k:Int)) (Kk b k)) l W)from fun W hb=>F.out k l c2 W (Z.out.below hb));have a7:=Hq (R.out k a1 aw.out);have s:=Hq (T.out (k+1) a1);have a8:=Hq (U.out (k+1));rw[a7.out]at s a8;clear F U R T;generalize Lg.Cl (D k).1 ((a:Int)+(k:Int)) (Kk b k)=x at m a7 s a8;obtain⟨d3,e3⟩:=x;simp only at m s a8;clear a1;go_upto_region 8 with fail
    go_cut [9,10] (fun x y wc=>∃ (gt:Nat) (A3:Option Addr) (c3:Nat),x= .pointer (some ⟨gt,0,none⟩)∧y= .int .i64 e3∧wc.heap[gt]? =some (.cells #[.slice A3 d3.sectors.length c3,d3.left,d3.down] 28 (0,0))∧By wc d3 A3 c3∧C4 0 wc 9 A3∧Bw wr wc)
    case first=>
     have Z0:Bw wr wr.drew:=(Below.refl _ wr).drew;refine E4 (S:=(fun u=>Bw wr u)) (fun f=>?_);refine Kt 0 (some 30) (v:=.agg #[.slice l (D k).1.sectors.length c2,.int .i64 (D k).1.left,.bool (D k).1.down]) rfl (yieldsIf_load_mid (by rfl) 28 (.tmp 3) rfl w.heap.size 0 (by rfl) #[.slice l (D k).1.sectors.length c2,.int .i64 (D k).1.left,.bool (D k).1.down].toList _ (fun u hu=>(by intro j v hj;rw[Nat.zero_add,Aa (Ac q.out.Ag hu)];simpa using hj)) Bz Kr Kr) ?_
     try simp only[Act.put,pS]
     refine Au 1 ?_;refine Au 2 ?_;refine Au 3 ?_;refine Au 4 ?_;refine Au 5 ?_;refine Au 6 ?_;refine Au 7 ?_;refine Au 8 ?_;refine Au 9 ?_;refine Au 10 ?_;refine wpAnyH_ready (rs:=[11,15]) Kr (by simp) ?_;refine(AllReadyH.cons (o:={dst:=some 41,op:=_,type:=_,pos:=_,after:=_,guard:=_}) rfl (fun K n=>?_) (AllReadyH.cons (o:={dst:=some 9,op:=_,type:=_,pos:=_,after:=_,guard:=_}) rfl (fun K n=>?_) AllReadyH.nil))
     ·
      go_simp
      refine(m.out _ Z0).mono ?_;rintro e I ⟨A3,c3,rfl,J,aa,t⟩;have L:C4 0 I 9 A3:=aa.elim (fun e=>by rw[e];exact H.out.below (Ae Z0 t)) (fun e=>e.mono (Nat.zero_le _));have Z2:=Ae Z0 t;try clear hSn
      have hSn:=Z2;refine Bl n (fun f=>?_);clear n K;refine Au 12 ?_;refine Au 13 ?_;refine Au 14 ?_;refine Bx 15 fun K n=>?_
      go_simp
      have HG:=heap_alloc_new I (.cells #['s',(),false] 28);have Z3:=Ae Z2 (Ad I (.cells #['s',(),false] 28));have ax:=J.below (Ad I (.cells #['s',(),false] 28));have ay:=L.below (Ad I (.cells #['s',(),false] 28));clear hSn;have hSn:=Z3;refine Bl n (fun f=>?_);clear n K;refine Bx 16 fun K n=>?_;refine Az (by rfl) ?_;refine sW #[.slice A3 d3.sectors.length c3,d3.left,d3.down] HG ?_;have Z4:=Fj (g:=I.heap.size) (by have:=Z2.size;omega) Z3 #[.slice A3 d3.sectors.length c3,d3.left,d3.down];have ad:=setRow_heap _ _ _ #[.slice A3 d3.sectors.length c3,d3.left,d3.down] _ _ HG;have ae:By _ d3 A3 c3:=⟨ay.Dj ax.secs HG (by decide) #[.slice A3 d3.sectors.length c3,d3.left,d3.down],ax.small⟩;have af:=ay.row I.heap.size #[.slice A3 d3.sectors.length c3,d3.left,d3.down];clear hSn;have hSn:=Z4;refine Bl n (fun f=>?_);clear n K;refine Au 17 ?_;refine wpAnyH_done Kr ?_ _;clear f hSn;go_wp2_with fail;go_meet
      case rel=>exact⟨_,A3,c3,rfl,rfl,ad,ae,af,Z4⟩
     ·
      go_simp
      have Z1:=Ae Z0 (Ad wr.drew (.cells #['s',(),false] 28));have hSn:=Z1;refine Bl n (fun f=>?_);clear n K;refine Bx 11 fun K n=>?_
      go_simp
      refine(m.out _ Z1).mono ?_;rintro e I ⟨A3,c3,rfl,J,aa,t⟩;have L:C4 0 I 9 A3:=aa.elim (fun e=>by rw[e];exact H.out.below (Ae Z1 t)) (fun e=>e.mono (Nat.zero_le _));have Z2:=Ae Z1 t;try clear hSn
      have hSn:=Z2;have HG:=Cb t;refine Bl n (fun f=>?_);clear n K;refine Au 12 ?_;refine Au 13 ?_;refine Au 14 ?_;refine Bx 16 fun K n=>?_;refine Az (by rfl) ?_;refine sW #[.slice A3 d3.sectors.length c3,d3.left,d3.down] HG ?_;have Z4:=Fj (g:=wr.drew.heap.size) (by show wr.heap.size≤wr.heap.size;omega) Z2 #[.slice A3 d3.sectors.length c3,d3.left,d3.down];have ad:=setRow_heap _ _ _ #[.slice A3 d3.sectors.length c3,d3.left,d3.down] _ _ HG;have ae:By _ d3 A3 c3:=⟨L.Dj J.secs HG (by decide) #[.slice A3 d3.sectors.length c3,d3.left,d3.down],J.small⟩;have af:=L.row wr.drew.heap.size #[.slice A3 d3.sectors.length c3,d3.left,d3.down];clear hSn;have hSn:=Z4;refine Bl n (fun f=>?_);clear n K;refine Au 17 ?_;refine wpAnyH_done Kr ?_ _;clear f hSn;go_wp2_with fail;go_meet
      case rel=>exact⟨_,A3,c3,rfl,rfl,ad,ae,af,Z4⟩
    case rest=>
     obtain⟨gt,A3,c3,rfl,rfl,az,b0,b1,b2⟩:=hcut;obtain⟨w3,rfl⟩:=ex wc;have ag:=Hq az;have C:=Hq b0;have E:=Hq b1;have r:=Hq (q.out.step b2);clear az b0 b1 b2 m
     by_cases O:e3=0
     ·have b7:(e3 != 0)=false:=by rw[O];rfl
      have HE:=Hq O;clear O s
      go_wp2_with(first|with_reducible refine lL ag.out Bz ?_|with_reducible refine lS #[.slice A3 d3.sectors.length c3,d3.left,d3.down] r.out.Ag ?_)
      go_roundw
      case rel=>
       have a6:=a7.out;have O:=HE.out;subst O;refine⟨k+1,A3,c3,by omega,by go_num,by rw[a6],?_⟩;rw[a6];exact⟨r.out.row 0 #[.slice A3 d3.sectors.length c3,d3.left,d3.down] _ rfl,⟨E.out.Dj C.out.secs r.out.Ag (by decide) _,C.out.small⟩,E.out.row _ _⟩
      case measure=>simp[intOf];omega
     ·have b7:(e3 != 0)=true:=by rw[bne_iff_ne];exact O
      have HE:=Hq (s.out O);clear O s
      go_upto_region 10 with(first|with_reducible refine lL ag.out Bz ?_|with_reducible refine lS #[.slice A3 d3.sectors.length c3,d3.left,d3.down] r.out.Ag ?_)
      have z:=Hq (r.out.row 0 #[.slice A3 d3.sectors.length c3,d3.left,d3.down] _ rfl);have ah:=Hq (show By _ d3 A3 c3 from⟨E.out.Dj C.out.secs r.out.Ag (by decide) #[.slice A3 d3.sectors.length c3,d3.left,d3.down],C.out.small⟩);have ai:=Hq (E.out.row w.heap.size #[.slice A3 d3.sectors.length c3,d3.left,d3.down]);generalize w3.setRow w.heap.size #[.slice A3 d3.sectors.length c3,d3.left,d3.down]=w4 at z ah ai ⊢;clear r C E ag
      go_wp2_with(first|with_reducible refine lL z.out.Ag Bz ?_|with_reducible refine lS #[.slice A3 d3.sectors.length c3,d3.left,d3.down] z.out.Ah ?_)
      refine rT2 e3 z.out.Ah Bz ?_;have N:=HQ.out A3 c3 (w4.setRow (w.heap.size+1) #[.slice A3 d3.sectors.length c3,d3.left,d3.down]);rw[HE.out]at N;exact N ⟨ai.out.Dj ah.out.secs z.out.Ah (by decide) _,ah.out.small⟩ (ai.out.row _ _) (z.out.row 1 #[.slice A3 d3.sectors.length c3,d3.left,d3.down] _ rfl).below
   ·obtain rfl:k=4:=by omega
    go_wp2_with(first|with_reducible refine lL q.out.Ag Bz ?_|with_reducible refine lS #[.slice l (D 4).1.sectors.length c2,.int .i64 (D 4).1.left,.bool (D 4).1.down] q.out.Ah ?_)
    refine rT2 () q.out.Ah Bz ?_;have N:=HQ.out l c2 (wr.setRow (w.heap.size+1) #[.slice l (D 4).1.sectors.length c2,.int .i64 (D 4).1.left,.bool (D 4).1.down]);rw[aw.out]at N;exact N ⟨H.out.Dj Z.out.secs q.out.Ah (by decide) _,Z.out.small⟩ (H.out.row _ _) (q.out.row 1 #[.slice l (D 4).1.sectors.length c2,.int .i64 (D 4).1.left,.bool (D 4).1.down] _ rfl).below
def Bk (x:Px)(w:World)(e:Ending)(w':World):Prop:=∃ q:SP,e= .returned (.tuple #[Af x.s q,x.e])∧An w' x.s q x.fs∧Bw w w'
theorem iO (s:Tx.St)(p:SP)(fs:List Fr)(k:Nat)(B:k<fs.length)(_hfl:fs.length≤100)(c:fs[k].rc=0)(w:World)(h:An w s p fs):
 Cq 181 #[Af s p,.int .i64 (k:Int)] w (Bk (Cy s fs k) w):=by
 have C:Cy s fs k=⟨s,fs,0⟩:=by unfold Cy;rw[Br B,if_pos c]
 rw[C];have j:=Hq (fun W (l:Bw w W)=>show Bk ⟨s,fs,0⟩ w (.returned (.tuple #[Af s p,()])) W from⟨p,rfl,h.below l,l⟩);generalize Bk ⟨s,fs,0⟩ w=Q at j ⊢;have x:=Hq h.fn;obtain⟨b,off,m,y,n,a⟩:=Bi Cc h.fr B;generalize z:fs[k]=f at a c;have o:=Hq (fun u (E:Bw w u)=>show u.rangeAt b (off+k*5) (F4 f)from fun i v F=>by rw[E.cell (p:=⟨b,off+k*5+i,none⟩) n];exact a i v F);have A:=Hq m;have D:(0:Int)≤(k:Int):=by omega
 have G:(k:Int)<(fs.length:Int):=by omega
 have H:(f.rc==0)=true:=by rw[c];rfl
 clear h z a y n m C c;go_enter Tryz.func181,Tryz.ntmps181;go_upto_region 1 with fail;have e:=Il w (Ai s p) 36 #[(),(),(),'s',(),false,(),(),(),(),"",'s',(),'s',()] 36;obtain⟨d,q⟩:=Dr e;rw[← q]at e ⊢;clear q;have I:=show d.cell? ⟨w.heap.size,11,none⟩=some (.slice (some ⟨b,off,none⟩) fs.length p.fc)from by rw[Aa e.out.Ag,← A.out,← x.out];rfl
 have r:=Hq (show d.rangeAt b (off+k*5) (F4 f)from o.out d e.out.below)
 go_upto_region 2 with(first
  |(refine Bt Kr fun K J=>wp_load_mid 116 (.tmp 12) rfl b (off+k*5) rfl (F4 f) _ r.out Cw Kr Kr (J _ _ ?_))
  |with_reducible refine sN (Cg f) ?_)
 have H1:=Hq (e.out.step (Ad d (.cells (Cg f) 116)));have t:=show(d.alloc (.cells (Cg f) 116)).cell? ⟨d.heap.size,4,none⟩=some (.int .i64 f.rc)from by rw[Aa (heap_alloc_new d (.cells (Cg f) 116))];rfl
 generalize d.alloc (.cells (Cg f) 116)=w1 at H1 t ⊢;generalize d.heap.size=g at t ⊢;clear e r I o
 try simp only[Act.put]
 go_wp2_with(first|with_reducible refine lL H1.out.Ag Ak ?_|with_reducible refine lS (Ai s p) H1.out.Ah ?_)
 refine rT2 () H1.out.Ah Ak ?_;exact j.out _ (H1.out.row 1 (Ai s p) _ rfl).below
theorem iP {N n B:Nat}(s:Tx.St)(p:SP)(fs:List Fr)(hW:Wf N n B s fs)(k:Nat)(hk:k<fs.length)(Y:¬ fs[k].rc=0)(w:World)(h:An w s p fs):
 Cq 181 #[Af s p,.int .i64 (k:Int)] w (Bk (Cy s fs k) w):=by
 have HP:=Hq h;have bk:=Hq h.fn;have bl:fs.length≤100:=by have:=hW.nf;omega
 have b2:=hW.n1;have hF:=hW.fr k hk;have al:=hF.is (hF.rz Y);have b3:=(Ke al).2.2.2;obtain⟨pg,a6⟩:∃ pg:Nat,fs[k].page=(pg:Int):=⟨fs[k].page.toNat,by have:=hF.pg;omega⟩;have bm:pg<n:=by have:=hF.pg;omega
 have l:=hW.low;have a7:=Hq (fun W (G:Bw w W)=>gR s.Am hW.dk.lb p.A p.c s.log l.e0 (by have:=l.ef;omega) (by have:=l.n;omega) (by have:=l.n;omega) (by have:=l.f;omega) (by have:=l.f;omega) (by have:=l.t0;have:=l.ef;omega) l.t0 l.t1 W (h.st.dk.below G));have a8:=hW.dk.force s.log;have b4:Ec s (pg:Int)=1+N+4*pg:=by unfold Ec;rw[hW.zl];omega
 have av:Cy s fs k=if ¬ (Lg.Bo s.Am s.log).2.2=0 then⟨{s with Am:=(Lg.Bo s.Am s.log).1,log:=(Lg.Bo s.Am s.log).2.1},fs,(Lg.Bo s.Am s.log).2.2⟩else
  if ¬ (E0 (Lg.Bo s.Am s.log).1 (1+N+4*pg) (Ea fs[k].bytes) 4).2=0 then⟨{s with Am:=(E0 (Lg.Bo s.Am s.log).1 (1+N+4*pg) (Ea fs[k].bytes) 4).1,log:=(Lg.Bo s.Am s.log).2.1},fs,(E0 (Lg.Bo s.Am s.log).1 (1+N+4*pg) (Ea fs[k].bytes) 4).2⟩
  else⟨{s with Am:=(E0 (Lg.Bo s.Am s.log).1 (1+N+4*pg) (Ea fs[k].bytes) 4).1,log:=(Lg.Bo s.Am s.log).2.1},fs.set k {fs[k]with rc:=0},0⟩:=by
  unfold Cy;rw[Br hk,if_neg Y,a6,b4]
 rw[av];generalize Lg.Bo s.Am s.log=y at a7 a8 av ⊢;obtain⟨d2,d,H⟩:=y;simp only at a7 a8 ⊢;have aw:=Hq (fun A c W=>Qi {s with Am:=d2,log:=d} {p with A:=A,c:=c} N pg hW.zl b2.2.2 (by omega) W);have aa:=Hq (fun W=>gC fs[k].bytes (by have:=hF.sz;omega) W);have P:=Hq (fun A c W (hr:By W d2 A c) (ht:C4 0 W 9 A)=>Y7 d2 a8 A c (1+N+4*pg) (by omega) (by omega) (Ea fs[k].bytes) b3 W hr ht);generalize Ea fs[k].bytes=z at aa P ⊢;generalize 1+N+4*pg=at_ at aw P ⊢;generalize E0 d2 at_ z 4=y at P ⊢;obtain⟨d3,e3⟩:=y;simp only at P ⊢;generalize hX:(if ¬ H=0 then(⟨{s with Am:=d2,log:=d},fs,H⟩:Px)else if ¬ e3=0 then⟨{s with Am:=d3,log:=d},fs,e3⟩else⟨{s with Am:=d3,log:=d},fs.set k {fs[k]with rc:=0},0⟩)=X;have ax:=Hq (fun(h2:¬ H=0) (w':World) (q:SP) (hp:An w' {s with Am:=d2,log:=d} q fs) (G:Bw w w')=>show Bk X w (.returned (.tuple #[Af {s with Am:=d2,log:=d} q,H])) w' from by rw[← hX,if_pos h2];exact⟨q,rfl,hp,G⟩);have ae:=Hq (fun(h2:H=0) (h3:¬ e3=0) (w':World) (q:SP) (hp:An w' {s with Am:=d3,log:=d} q fs) (G:Bw w w')=>show Bk X w (.returned (.tuple #[Af {s with Am:=d3,log:=d} q,e3])) w' from by rw[← hX,if_neg (fun hn=>hn h2),if_pos h3];exact⟨q,rfl,hp,G⟩);have Z:=Hq (fun(h2:H=0) (h3:e3=0) (w':World) (q:SP) (hp:An w' {s with Am:=d3,log:=d} q (fs.set k {fs[k]with rc:=0})) (G:Bw w w')=>show Bk X w (.returned (.tuple #[Af {s with Am:=d3,log:=d} q,()])) w' from by rw[← hX,if_neg (fun hn=>hn h2),if_neg (fun hn=>hn h3)];exact⟨q,rfl,hp,G⟩);generalize Bk X w=Q at ax ae Z ⊢;obtain⟨b,off,b5,bn,ay,I⟩:=Bi Cc h.fr hk;clear hX av l a8 hF al b3;generalize bo:fs[k]=f at I Z aa a6 Y;have bp:=Hq ay;have b6:=Hq (fun u (hu:Bw w u)=>show u.rangeAt b (off+k*5) (F4 f)from fun i v hv=>by rw[hu.cell (p:=⟨b,off+k*5+i,none⟩) ay];exact I i v hv);have b7:=Hq b5;have c8:(0:Int)≤(k:Int):=by omega
 have ca:(k:Int)<(fs.length:Int):=by omega
 have C:=Hq a6;have bq:(f.rc==0)=false:=beq_eq_false_iff_ne.2 Y;clear h hW b4 bo I bn ay b5 bm a6 b2 Y;go_enter Tryz.func181,Tryz.ntmps181;go_upto_region 1 with fail;have H0:=Il w (Ai s p) 36 #[(),(),(),'s',(),false,(),(),(),(),"",'s',(),'s',()] 36;obtain⟨W0,b8⟩:=Dr H0;rw[← b8]at H0 ⊢;clear b8;have hc:=show W0.cell? ⟨w.heap.size,11,none⟩=some (.slice (some ⟨b,off,none⟩) fs.length p.fc)from by rw[Aa H0.out.Ag,← b7.out,← bk.out];rfl
 have b9:=Hq (show W0.rangeAt b (off+k*5) (F4 f)from b6.out W0 H0.out.below)
 go_upto_region 2 with(first
  |(refine Bt Kr fun K R=>wp_load_mid 116 (.tmp 12) rfl b (off+k*5) rfl (F4 f) _ b9.out Cw Kr Kr (R _ _ ?_))
  |with_reducible refine sN (Cg f) ?_)
 have H1:=Hq (H0.out.step (Ad W0 (.cells (Cg f) 116)));have HG:=Hq (heap_alloc_new W0 (.cells (Cg f) 116));have br:w.heap.size+1<W0.heap.size:=H0.out.lt (i:=1) (by simp);obtain⟨g,hg⟩:=ex W0.heap.size;obtain⟨w1,af⟩:=ex (W0.alloc (.cells (Cg f) 116));rw[← hg,← af]at HG;rw[← af]at H1;rw[← af,← hg];rw[← hg]at br;clear af hg H0 b9 hc b6
 try simp only[Act.put]
 have bs:=show w1.cell? ⟨g,4,none⟩=some (.int .i64 f.rc)from by rw[Aa HG.out];rfl
 go_upto_region 6 with(first
  |with_reducible refine lP #[.slice p.A s.Am.sectors.length p.c,s.Am.left,s.Am.down] H1.out.Ag Bz ?_
  |with_reducible refine lP #[s.log.from_,s.log.n,s.log.end_,s.log.safe,s.log.tail] H1.out.Ag Fp ?_
  |(go_at_call 230;refine(a7.out _ H1.out.below).mono ?_;rintro e w2 ⟨A2,c2,rfl,ba,bb,ag⟩;have H2:=Hq (H1.out.step ag);have H3:=Hq (show Dm w.heap.size w [((Ai {s with Am:=d2} {p with A:=A2,c:=c2}),36),(#[(),(),(),'s',(),false,(),(),(),(),"",'s',(),'s',()],36)] (w2.setRow w.heap.size (Ai {s with Am:=d2} {p with A:=A2,c:=c2}))from H2.out.row 0 (Ai {s with Am:=d2} {p with A:=A2,c:=c2}) _ rfl))
  |with_reducible refine lU #[.slice A2 d2.sectors.length c2,d2.left,d2.down] (Ai {s with Am:=d2} {p with A:=A2,c:=c2}) H2.out.Ag ?_
  |with_reducible refine lU #[d.from_,d.n,d.end_,d.safe,d.tail] (Ai {s with Am:=d2,log:=d} {p with A:=A2,c:=c2}) H3.out.Ag ?_)
 have an:C4 0 w2 9 A2:=bb.elim (fun e=>by rw[e];exact HP.out.st.dt.below H2.out.below) (fun e=>e.mono (Nat.zero_le _));have bc:Below w.heap.size w2 ((w2.setRow w.heap.size (Ai {s with Am:=d2} {p with A:=A2,c:=c2})).setRow w.heap.size (Ai {s with Am:=d2,log:=d} {p with A:=A2,c:=c2})):=Fj (Nat.le_refl _) (Fj (Nat.le_refl _) (show Below w.heap.size w2 w2 from⟨rfl,rfl,rfl,Nat.le_refl _,fun _ _=>rfl⟩) (Ai {s with Am:=d2} {p with A:=A2,c:=c2})) (Ai {s with Am:=d2,log:=d} {p with A:=A2,c:=c2});have H4:=Hq (show Dm w.heap.size w [((Ai {s with Am:=d2,log:=d} {p with A:=A2,c:=c2}),36),(#[(),(),(),'s',(),false,(),(),(),(),"",'s',(),'s',()],36)] ((w2.setRow w.heap.size (Ai {s with Am:=d2} {p with A:=A2,c:=c2})).setRow w.heap.size (Ai {s with Am:=d2,log:=d} {p with A:=A2,c:=c2}))from H3.out.row 0 (Ai {s with Am:=d2,log:=d} {p with A:=A2,c:=c2}) _ rfl);have az:=Hq ((Aj _ _ (Ai {s with Am:=d2,log:=d} {p with A:=A2,c:=c2}) _ (show g≠w.heap.size by omega)).trans ((Aj _ _ (Ai {s with Am:=d2} {p with A:=A2,c:=c2}) _ (show g≠w.heap.size by omega)).trans (Ac HG.out ag)));have bd:=Hq ((HP.out.below H1.out.below).Am ag d ba an);have T:=Hq (((bd.out.other (t:=36) H2.out.Ag (by decide) (by decide) (by decide) (Ai {s with Am:=d2} {p with A:=A2,c:=c2}))).other (t:=36) H3.out.Ag (by decide) (by decide) (by decide) (Ai {s with Am:=d2,log:=d} {p with A:=A2,c:=c2}));generalize (w2.setRow w.heap.size (Ai {s with Am:=d2} {p with A:=A2,c:=c2})).setRow w.heap.size (Ai {s with Am:=d2,log:=d} {p with A:=A2,c:=c2})=w3 at H4 az T bc ⊢;clear ba bb an bc ag H1 H2 H3 HG a7 HP bd bs bq
 try simp only[Act.put]
 by_cases U:H=0
 ·have bt:(H != 0)=false:=by rw[U];rfl
  have ah:=Hq U;clear U ax;go_upto_region 8 with fail
  go_cut [7] (fun x wc=>x= .int .i64 e3∧∃ (J:Option Addr) (c3:Nat),Dm w.heap.size w [((Ai {s with Am:=d3,log:=d} {p with A:=J,c:=c3}),36),(#[(),(),(),'s',(),false,(),(),(),(),"",'s',(),'s',()],36)] wc∧wc.heap[g]? =some (.cells (Cg f) 116 (0,0))∧An wc {s with Am:=d3,log:=d} {p with A:=J,c:=c3} fs)
  case first=>
   have ai:=Hq (fun(u:World) (hu:Bw w3 u)=>show u.heap[w.heap.size]? =some (.cells (Ai {s with Am:=d2,log:=d} {p with A:=A2,c:=c2}) 36 (0,0))∧u.heap[g]? =some (.cells (Cg f) 116 (0,0))from⟨Ac H4.out.Ag hu,Ac az.out hu⟩);have r:Bw w3 w3.drew:=(Below.refl _ w3).drew;have hSn:=ai.out _ r;refine Ig (S:=(fun u=>u.heap[w.heap.size]? =some (.cells (Ai {s with Am:=d2,log:=d} {p with A:=A2,c:=c2}) 36 (0,0))∧u.heap[g]? =some (.cells (Cg f) 116 (0,0)))) 14 Kr ?_ (fun L=>?_)
   ·exact hSn
   generalize w3.drew=w8 at r hSn ⊢;refine D9 (i:=0) (oi:={dst:=some 34,op:=_,type:=_,pos:=_,after:=_,guard:=_}) (v:=?_) (p:=[14]) rfl Kr Kr Kr Kr Kr Kr (fun _ _ _ h=>h) (Or.inl ⟨by rfl,?_⟩) (by assumption) ?_
   rotate_left
   ·intro u a;have hcl0:=show u.cell? ⟨g,0,none⟩=some (.int .i64 (pg:Int))from(by rw[Aa a.2,← C.out];rfl);have hcl1:=show u.cell? ⟨g,1,none⟩=some (.string f.bytes)from(by rw[Aa a.2];rfl)
    clear a;go_simp;(try with_reducible rfl)
   try simp only[Act.put,pS]
   refine D9 (i:=1) (oi:={dst:=some 35,op:=_,type:=_,pos:=_,after:=_,guard:=_}) (v:=.agg #[.slice A2 d2.sectors.length c2,d2.left,d2.down]) (p:=[14]) rfl Kr Kr Kr Kr Kr Kr (fun _ _ _ h=>h) (yieldsIf_load_mid (by rfl) 28 (.tmp 34) rfl w.heap.size 3 (by rfl) [.slice A2 d2.sectors.length c2,.int .i64 d2.left,.bool d2.down] _ (fun u hu j v hj=>by rw[Aa hu.1];rcases j with _|_|_|j<;>simp at hj ⊢<;>exact hj) Bz Kr Kr) (by assumption) ?_
   try simp only[Act.put,pS]
   refine tA 2 [14] Ak ?_;refine D9 (i:=3) (oi:={dst:=some 37,op:=_,type:=_,pos:=_,after:=_,guard:=_}) (v:=?_) (p:=[14]) rfl Kr Kr Kr Kr Kr Kr (fun _ _ _ h=>h) (Or.inl ⟨by rfl,?_⟩) (by assumption) ?_
   rotate_left
   ·intro u a;have hcl0:=show u.cell? ⟨g,0,none⟩=some (.int .i64 (pg:Int))from(by rw[Aa a.2,← C.out];rfl);have hcl1:=show u.cell? ⟨g,1,none⟩=some (.string f.bytes)from(by rw[Aa a.2];rfl)
    clear a;go_simp;(try with_reducible rfl)
   try simp only[Act.put,pS]
   refine D9 (i:=4) (oi:={dst:=some 38,op:=_,type:=_,pos:=_,after:=_,guard:=_}) (v:=?_) (p:=[14]) rfl Kr Kr Kr Kr Kr Kr (fun _ _ _ h=>h) (Or.inl ⟨by rfl,?_⟩) (by assumption) ?_
   rotate_left
   ·intro u a;have hcl0:=show u.cell? ⟨g,0,none⟩=some (.int .i64 (pg:Int))from(by rw[Aa a.2,← C.out];rfl);have hcl1:=show u.cell? ⟨g,1,none⟩=some (.string f.bytes)from(by rw[Aa a.2];rfl)
    clear a;go_simp;(try with_reducible rfl)
   try simp only[Act.put,pS]
   refine D9 (i:=6) (oi:={dst:=some 40,op:=_,type:=_,pos:=_,after:=_,guard:=_}) (v:=?_) (p:=[14]) rfl Kr Kr Kr Kr Kr Kr (fun _ _ _ h=>h) (Or.inl ⟨by rfl,?_⟩) (by assumption) ?_
   rotate_left
   ·intro u a;have hcl0:=show u.cell? ⟨g,0,none⟩=some (.int .i64 (pg:Int))from(by rw[Aa a.2,← C.out];rfl);have hcl1:=show u.cell? ⟨g,1,none⟩=some (.string f.bytes)from(by rw[Aa a.2];rfl)
    clear a;go_simp;(try with_reducible rfl)
   try simp only[Act.put,pS]
   refine D9 (i:=7) (oi:={dst:=some 41,op:=_,type:=_,pos:=_,after:=_,guard:=_}) (v:=?_) (p:=[14]) rfl Kr Kr Kr Kr Kr Kr (fun _ _ _ h=>h) (Or.inl ⟨by rfl,?_⟩) (by assumption) ?_
   rotate_left
   ·intro u a;have hcl0:=show u.cell? ⟨g,0,none⟩=some (.int .i64 (pg:Int))from(by rw[Aa a.2,← C.out];rfl);have hcl1:=show u.cell? ⟨g,1,none⟩=some (.string f.bytes)from(by rw[Aa a.2];rfl)
    clear a;go_simp;(try with_reducible rfl)
   try simp only[Act.put,pS]
   refine Ce (rs:=[5]) Kr (by simp) ?_;refine(Bc.cons (o:={dst:=some 39,op:=_,type:=_,pos:=_,after:=_,guard:=_}) rfl (fun K R=>?_) Bc.nil)
   go_simp
   (refine(aw.out A2 c2 _).mono ?_);rintro e w9 ⟨rfl,m⟩;have D:=Ae r m;clear r hSn m;have r:=D;clear D;have hSn:=ai.out _ r
   refine Bl R (fun L=>?_);clear R K;refine Ce (rs:=[8]) Kr (by simp) ?_;refine(Bc.cons (o:={dst:=some 42,op:=_,type:=_,pos:=_,after:=_,guard:=_}) rfl (fun K R=>?_) Bc.nil)
   go_simp
   (refine(aa.out _).mono ?_);rintro e w9 ⟨rfl,m⟩;have D:=Ae r m;clear r hSn m;have r:=D;clear D;have hSn:=ai.out _ r
   refine Bl R (fun L=>?_);clear R K;refine Ce (rs:=[9]) Kr (by simp) ?_;refine(Bc.cons (o:={dst:=some 43,op:=_,type:=_,pos:=_,after:=_,guard:=_}) rfl (fun K R=>?_) Bc.nil)
   go_simp
   (refine(P.out A2 c2 _ (T.out.below r).st.dk (T.out.below r).st.dt).mono ?_);rintro e w9 ⟨J,c3,rfl,bf,bg,m⟩;have bu:=(T.out.below r).Am m d bf bg;clear bf bg;have D:=Ae r m;clear r hSn m;have r:=D;clear D;have hSn:=ai.out _ r
   refine Bl R (fun L=>?_);clear R K;refine D9 (i:=10) (oi:={dst:=some 33,op:=_,type:=_,pos:=_,after:=_,guard:=_}) (v:=?_) (p:=[14]) rfl Kr Kr Kr Kr Kr Kr (fun _ _ _ h=>h) (Or.inl ⟨by rfl,?_⟩) (by assumption) ?_
   rotate_left
   ·intro u a;have hcl0:=show u.cell? ⟨g,0,none⟩=some (.int .i64 (pg:Int))from(by rw[Aa a.2,← C.out];rfl);have hcl1:=show u.cell? ⟨g,1,none⟩=some (.string f.bytes)from(by rw[Aa a.2];rfl)
    clear a;go_simp;(try with_reducible rfl)
   try simp only[Act.put,pS]
   refine D9 (i:=11) (oi:={dst:=some 44,op:=_,type:=_,pos:=_,after:=_,guard:=_}) (v:=?_) (p:=[14]) rfl Kr Kr Kr Kr Kr Kr (fun _ _ _ h=>h) (Or.inl ⟨by rfl,?_⟩) (by assumption) ?_
   rotate_left
   ·intro u a;have hcl0:=show u.cell? ⟨g,0,none⟩=some (.int .i64 (pg:Int))from(by rw[Aa a.2,← C.out];rfl);have hcl1:=show u.cell? ⟨g,1,none⟩=some (.string f.bytes)from(by rw[Aa a.2];rfl)
    clear a;go_simp;(try with_reducible rfl)
   try simp only[Act.put,pS]
   refine Ge (i:=12) (oi:={dst:=some 45,op:=_,type:=_,pos:=_,after:=_,guard:=_}) (v:=?_) rfl Kr Kr Kr Kr (fun _ _ _ h=>h) (Or.inl ⟨by rfl,?_⟩) (fun _=>by assumption) ?_
   rotate_left
   ·intro u a;clear a;go_simp;(try with_reducible rfl)
   try simp only[Act.put,pS]
   refine D9 (i:=13) (oi:={dst:=some 46,op:=_,type:=_,pos:=_,after:=_,guard:=_}) (v:=?_) (p:=[14]) rfl Kr Kr Kr Kr Kr Kr (fun _ _ _ h=>h) (Or.inl ⟨by rfl,?_⟩) (by assumption) ?_
   rotate_left
   ·intro u a;have hcl0:=show u.cell? ⟨g,0,none⟩=some (.int .i64 (pg:Int))from(by rw[Aa a.2,← C.out];rfl);have hcl1:=show u.cell? ⟨g,1,none⟩=some (.string f.bytes)from(by rw[Aa a.2];rfl)
    clear a;go_simp;(try with_reducible rfl)
   try simp only[Act.put,pS]
   refine Ce (rs:=[14]) Kr (by simp) ?_;refine(Bc.last (o:={dst:=none,op:=_,type:=_,pos:=_,after:=_,guard:=_}) rfl Kr (fun K R=>?_) Bc.nil);refine Az (by rfl) ?_;refine nJ 28 (.tmp 46) (.tmp 44) rfl w.heap.size 3 #[.slice J d3.sectors.length c3,d3.left,d3.down] (Ai {s with Am:=d2,log:=d} {p with A:=A2,c:=c2}) (Ai {s with Am:=d3,log:=d} {p with A:=J,c:=c3}) _ rfl rfl hSn.1 Kr Kr Kr Kr ?_;refine R.out _ _ ?_;clear R K
   try simp only[Act.put]
   refine Ge (i:=15) (oi:={dst:=some 7,op:=_,type:=_,pos:=_,after:=_,guard:=_}) (v:=?_) rfl Kr Kr Kr Kr (fun _ _ _ h=>h) (Or.inl ⟨by rfl,?_⟩) (fun h=>absurd h (by decide)) ?_
   rotate_left
   ·intro u a;clear a;go_simp;(try with_reducible rfl)
   try simp only[Act.put,pS]
   refine Ie Kr ?_ _;go_wp2_with fail;go_meet
   case rel=>exact⟨rfl,J,c3,(H4.out.step r).row 0 (Ai {s with Am:=d3,log:=d} {p with A:=J,c:=c3}) _ rfl,(Aj _ _ (Ai {s with Am:=d3,log:=d} {p with A:=J,c:=c3}) _ (show g≠w.heap.size by omega)).trans hSn.2,bu.other (t:=36) hSn.1 (by decide) (by decide) (by decide) (Ai {s with Am:=d3,log:=d} {p with A:=J,c:=c3})⟩
  case rest=>
   obtain⟨rfl,J,c3,bh,ao,aq⟩:=hcut;obtain⟨aj,rfl⟩:=ex wc;have O:=Hq bh;have E:=Hq ao;have a1:=Hq aq;clear bh ao aq H4 az T aa P aw
   by_cases V:e3=0
   ·have bw:(e3 != 0)=false:=by rw[V];rfl
    have b0:=Hq V;clear V ae;have bx:=show aj.cell? ⟨g,4,none⟩=some (.int .i64 f.rc)from(by rw[Aa E.out];rfl);have bz:=Ao E.out 4;have c6:=Hq (fun W (hp:An W {s with Am:=d3,log:=d} {p with A:=J,c:=c3} fs)=>Gx {s with Am:=d3,log:=d} {p with A:=J,c:=c3} fs bl k hk {f with rc:=0} W hp);go_upto_region 12 with fail;have ar:=Hq (show(aj.setCell ⟨g,4,none⟩ (.int .i64 0)).heap[g]? =some (.cells (Cg {f with rc:=0}) 116 (0,0))from by have:=Bs 4 E.out (.int .i64 0);simpa using this);have b1:=Hq (O.out.under (M:=g) (by simp;omega) ((Below.refl _ aj).setCell (p:=⟨g,4,none⟩) (Nat.le_refl _) (.int .i64 0)));have au:=Hq (a1.out.own E.out (fun ad e=>by have H:p.F=some ad:=e;rw[b7.out]at H;injection H with H;subst H;have:=bp.out;show b≠g;omega) 4 (.int .i64 0));generalize aj.setCell ⟨g,4,none⟩ (.int .i64 0)=w14 at ar b1 au ⊢;clear bx bz O a1 E
    go_wp2_with(first
     |with_reducible refine lL b1.out.Ag Ak ?_
     |with_reducible refine lL ar.out Cw ?_
     |(go_at_call 146;refine(c6.out _ au.out).mono ?_;rintro e cb ⟨q,rfl,c7,bj⟩;have ak:=Hq (b1.out.step bj))
     |with_reducible refine lS (Ai {s with Am:=d3,log:=d} q) ak.out.Ah ?_)
    refine rT2 () ak.out.Ah Ak ?_;exact Z.out ah.out b0.out _ q (c7.other ak.out.Ah (by decide) (by decide) (by decide) _) (ak.out.row 1 (Ai {s with Am:=d3,log:=d} q) _ rfl).below
   ·have bw:(e3 != 0)=true:=by rw[bne_iff_ne];exact V
    have b0:=Hq V;clear V Z
    go_wp2_with(first|with_reducible refine lL O.out.Ag Ak ?_|with_reducible refine lS (Ai {s with Am:=d3,log:=d} {p with A:=J,c:=c3}) O.out.Ah ?_)
    refine rT2 e3 O.out.Ah Ak ?_;exact ae.out ah.out b0.out _ {p with A:=J,c:=c3} (a1.out.other O.out.Ah (by decide) (by decide) (by decide) _) (O.out.row 1 (Ai {s with Am:=d3,log:=d} {p with A:=J,c:=c3}) _ rfl).below
 ·have bt:(H != 0)=true:=by rw[bne_iff_ne];exact U
  have ah:=Hq U;clear U ae Z
  go_wp2_with(first|with_reducible refine lL H4.out.Ag Ak ?_|with_reducible refine lS (Ai {s with Am:=d2,log:=d} {p with A:=A2,c:=c2}) H4.out.Ah ?_)
  refine rT2 H H4.out.Ah Ak ?_;exact ax.out ah.out _ {p with A:=A2,c:=c2} (T.out.other H4.out.Ah (by decide) (by decide) (by decide) _) (H4.out.row 1 (Ai {s with Am:=d2,log:=d} {p with A:=A2,c:=c2}) _ rfl).below
theorem Qj {N n B:Nat}(s:Tx.St)(p:SP)(fs:List Fr)(b:Wf N n B s fs)(k:Nat)(c:k<fs.length)(w:World)(h:An w s p fs):
 Cq 181 #[Af s p,.int .i64 (k:Int)] w (Bk (Cy s fs k) w):=by
 by_cases a:fs[k].rc=0
 ·exact iO s p fs k c (by have:=b.nf;omega) a w h
 ·exact iP s p fs b k c a w h
def vR (s:Tx.St)(n:Nat)(o:Option (Nat×List Fr))(w:World)(e:Ending)(w':World):Prop:=
 ∃ (x kk:Int) (q:SP),e= .returned (.tuple #[Af {s with hand:=x} q,kk])∧Bw w w'∧
  ((∃ (k:Nat) (fs':List Fr),o=some (k,fs')∧x=(((k+1)%n:Nat):Int)∧kk=(k:Int)∧An w' {s with hand:=x} q fs')∨(o=none∧kk= -1∧x=s.hand))
theorem Uz.one {s:Tx.St}{n:Nat}{o:Option (Nat×List Fr)}{w:World}{e:Ending}{w':World}(h:Uz s n o w e w'):vR s n o w e w':=by
 rcases h with⟨k,a,q,x,b,c,d,f,g⟩|⟨b,q,c,d⟩
 ·exact⟨x,k,q,d,g,.inl ⟨k,a,b,c,rfl,f⟩⟩
 ·exact⟨s.hand,-1,q,c,d,.inr ⟨b,rfl,rfl⟩⟩
def U1 (x:Px×Nat)(w:World)(e:Ending)(w':World):Prop:=∃ q:SP,e= .returned (.tuple #[Af x.1.s q,.int .i64 (x.2:Int),x.1.e])∧(x.1.e=0∨x.1.e=20→An w' x.1.s q x.1.fs)∧Bw w w'
theorem Ga (s:Tx.St)(p:SP)(s2:Tx.St)(c:SP)(x:Int)(w:World):
 Cr 149 #[Af s p,Af s2 c,x] w (if x=0∨x=20 then Af s2 c else Af s p):=by
 by_cases d:x=0
 ·rw[if_pos (.inl d)]
  have f:(x==0)=true:=by rw[d];rfl
  clear d;go_enter Tryz.func149,Tryz.ntmps149;go_upto_region 1 with fail;have a:=Jo w (Ai s p) 36 (Ai s2 c) 36 #[(),(),(),'s',(),false,(),(),(),(),"",'s',(),'s',()] 36;obtain⟨i,b⟩:=Dr a;rw[← b]at a ⊢;clear b
  go_wp2_with(first|with_reducible refine lL a.out.Ah Ak ?_|with_reducible refine lS (Ai s2 c) a.out.Ax ?_)
  refine rT1 a.out.Ax Ak ?_;exact⟨rfl,(a.out.row 2 (Ai s2 c) _ rfl).below⟩
 ·have f:(x==0)=false:=beq_eq_false_iff_ne.2 d
  by_cases e:x=20
  ·rw[if_pos (.inr e)]
   have g:(x==20)=true:=(by rw[e];rfl);clear d e;go_enter Tryz.func149,Tryz.ntmps149;go_upto_region 1 with fail;have a:=Jo w (Ai s p) 36 (Ai s2 c) 36 #[(),(),(),'s',(),false,(),(),(),(),"",'s',(),'s',()] 36;obtain⟨i,b⟩:=Dr a;rw[← b]at a ⊢;clear b
   go_wp2_with(first|with_reducible refine lL a.out.Ah Ak ?_|with_reducible refine lS (Ai s2 c) a.out.Ax ?_)
   refine rT1 a.out.Ax Ak ?_;exact⟨rfl,(a.out.row 2 (Ai s2 c) _ rfl).below⟩
  ·rw[if_neg (fun h=>h.elim d e)]
   have g:(x==20)=false:=beq_eq_false_iff_ne.2 e;clear d e;go_enter Tryz.func149,Tryz.ntmps149;go_upto_region 1 with fail;have a:=Jo w (Ai s p) 36 (Ai s2 c) 36 #[(),(),(),'s',(),false,(),(),(),(),"",'s',(),'s',()] 36;obtain⟨i,b⟩:=Dr a;rw[← b]at a ⊢;clear b
   go_wp2_with(first|with_reducible refine lL a.out.Ag Ak ?_|with_reducible refine lS (Ai s p) a.out.Ax ?_)
   refine rT1 a.out.Ax Ak ?_;exact⟨rfl,(a.out.row 2 (Ai s p) _ rfl).below⟩
theorem S1 {N n B:Nat}(s:Tx.St)(p:SP)(fs:List Fr)(L:Wf N n B s fs)(hB:B≤1000000)(w:World)(h:An w s p fs):
 Cq 148 #[Af s p] w (U1 (A9 s fs) w):=by
 have ae:=L.nf;have M:=Hq (fun W (hb:Bw w W)=>Sw (fun f=>¬ Full f) 124 #[] (enters_of Tryz.func124 Kr rfl) fs (by omega) p.F p.fc W (h.fr.below hb) (fun f _ V _=>by simpa using Uw f V));have y:=Hq (fun W (hb:Bw w W)=>(Wh s p fs ae L.hd (fun i hi=>by have:=(L.fr i hi).pn;omega) W (h.below hb)).mono fun _ _ C=>C.one);have af:=Hq h.fn;obtain⟨X,O⟩:=ex (A9 s fs);rw[← O];have E:=Hq (fun W (g:Bw w W) (k:Nat) (P:Hb fs=some k)=>show U1 X w (.returned (.tuple #[Af s p,.int .i64 (k:Int),()])) W from by
  have e:X=(⟨s,fs,0⟩,k):=by rw[O];unfold A9;rw[P]
  rw[e];exact⟨p,rfl,fun _=>h.below g,g⟩)
 have m:=Hq (fun W (g:Bw w W) (P:Hb fs=none) (r:E2 fs.length (2*fs.length) (s.hand.toNat%fs.length) fs=none) (q:SP)=>show U1 X w (.returned (.tuple #[Af s q,(),.int .i64 18])) W from by
  have e:X=(⟨s,fs,18⟩,0):=by rw[O];unfold A9;rw[P];simp only;rw[r]
  rw[e];exact⟨q,rfl,fun h=>absurd h (by show ¬ ((18:Int)=0∨(18:Int)=20);decide),g⟩)
 have o:=Hq (fun W (g:Bw w W) (P:Hb fs=none) (k:Nat) (l:List Fr) (r:E2 fs.length (2*fs.length) (s.hand.toNat%fs.length) fs=some (k,l)) (x:Int) (C:x=(((k+1)%fs.length:Nat):Int)) (Y:Px) (G:Y=Cy {s with hand:=x} l k) (q:SP) (H:An W Y.s q Y.fs)=>show U1 X w (.returned (.tuple #[Af Y.s q,.int .i64 (k:Int),Y.e])) W from by
  have e:X=(Y,k):=by rw[O];unfold A9;rw[P];simp only;rw[r,G,C]
  rw[e];exact⟨q,rfl,fun _=>H,g⟩)
 have u:=Hq (fun(k:Nat) (l:List Fr) (r:E2 fs.length (2*fs.length) (s.hand.toNat%fs.length) fs=some (k,l)) (x:Int) (C:x=(((k+1)%fs.length:Nat):Int)) (q:SP) W (H:An W {s with hand:=x} q l)=>show Cq 181 #[Af {s with hand:=x} q,.int .i64 (k:Int)] W (Bk (Cy {s with hand:=x} l k) W)from by
  obtain⟨h1,h2,_⟩:=Km fs.length (by omega) _ _ fs fs k l rfl (Nat.mod_lt _ (by omega)) (iI.refl fs) r;have hm:(k+1)%fs.length<fs.length:=Nat.mod_lt _ (by omega);exact Qj {s with hand:=x} q l ((L.hand (x:=x) (by omega)).marks h2) k (by have:=h2.len;omega) W H)
 clear O;generalize U1 X w=Q at E m o ⊢;generalize E2 fs.length (2*fs.length) (s.hand.toNat%fs.length) fs=V at y m o u;clear h L;go_enter Tryz.func148,Tryz.ntmps148;go_upto_region 1 with fail;have J:=Il w (Ai s p) 36 #[(),(),(),'s',(),false,(),(),(),(),"",'s',(),'s',()] 36;obtain⟨W0,R⟩:=Dr J;rw[← R]at J ⊢;clear R;have hc:=show W0.cell? ⟨w.heap.size,11,none⟩=some (.slice p.F fs.length p.fc)from by rw[Aa J.out.Ag,← af.out];rfl
 go_upto_region 2 with(go_at_call 122;refine(M.out _ J.out.below).mono ?_;rintro e w1 ⟨kk,rfl,hq,g⟩;have H1:=Hq (J.out.step g);clear g M hc J;rcases hq with⟨rfl,hq⟩|⟨k,hk,rfl,S,T⟩)
 ·have ak:¬ (0:Int)≤-1:=by decide
  have U:=Hq (Nr hq);clear hq E
  go_upto_region 5 with(first
   |with_reducible refine lL H1.out.Ag Ak ?_
   |(go_at_call 212;refine(y.out _ H1.out.below).mono ?_;rintro e w2 ⟨x,kk,q,rfl,Z,a1⟩;have H2:=Hq (H1.out.step Z))
   |with_reducible refine lS (Ai {s with hand:=x} q) H2.out.Ag ?_)
  have D:=Hq (show Dm w.heap.size w [((Ai {s with hand:=x} q),36),(#[(),(),(),'s',(),false,(),(),(),(),"",'s',(),'s',()],36)] (w2.setRow w.heap.size (Ai {s with hand:=x} q))from H2.out.row 0 (Ai {s with hand:=x} q) _ rfl);have z:=Hq (show(∃ (k:Nat) (l:List Fr),V=some (k,l)∧x=(((k+1)%fs.length:Nat):Int)∧kk=(k:Int)∧An (w2.setRow w.heap.size (Ai {s with hand:=x} q)) {s with hand:=x} q l)∨(V=none∧kk= -1∧x=s.hand)from a1.imp (fun⟨k,l,a,b,c,d⟩=>⟨k,l,a,b,c,d.other (t:=36) H2.out.Ag (by decide) (by decide) (by decide) (Ai {s with hand:=x} q)⟩) id);generalize w2.setRow w.heap.size (Ai {s with hand:=x} q)=w3 at D z ⊢;clear Z a1 H1 H2 y
  try simp only[Act.put]
  rcases z.out with⟨k,I,r,C,rfl,a6⟩|⟨r,rfl,rfl⟩
  ·have a7:=Hq a6
   clear a6 z;have v:=Hq (fun W H=>u.out k I r x C q W H);have ag:=Hq (fun W g Y G q H=>o.out W g U.out k I r x C Y G q H);have al:¬ (k:Int)<0:=(by omega);clear u o m r C;obtain⟨Y,G⟩:=ex (Cy {s with hand:=x} I k);rw[← G]at v;have HY:=Hq G;clear G
   try simp only[Act.put]
   go_upto_region 8 with(first
    |with_reducible refine lL D.out.Ag Ak ?_
    |(go_at_call 181;refine(v.out _ a7.out).mono ?_;rintro e w4 ⟨A,rfl,a8,aa⟩;have H4:=Hq (D.out.step aa))
    |with_reducible refine lS (Ai Y.s A) H4.out.Ag ?_)
   have K:=Hq (show Dm w.heap.size w [((Ai Y.s A),36),(#[(),(),(),'s',(),false,(),(),(),(),"",'s',(),'s',()],36)] (w4.setRow w.heap.size (Ai Y.s A))from H4.out.row 0 (Ai Y.s A) _ rfl);have ad:=Hq (a8.other (t:=36) H4.out.Ag (by decide) (by decide) (by decide) (Ai Y.s A));generalize w4.setRow w.heap.size (Ai Y.s A)=w5 at K ad ⊢;clear aa a8 D H4 a7 v
   try simp only[Act.put]
   go_wp2_with(first
    |with_reducible refine lL K.out.Ag Ak ?_
    |with_reducible refine lS (Ai Y.s A) K.out.Ah ?_)
   refine rT3 (.int .i64 (k:Int)) (Y.e) K.out.Ah Ak ?_;exact ag.out _ (K.out.row 1 (Ai Y.s A) _ rfl).below Y HY.out A (ad.out.other (t:=36) K.out.Ah (by decide) (by decide) (by decide) _)
  ·clear z
   have ah:=Hq (fun W g=>m.out W g U.out r q);clear u o m r;have an:(-1:Int)<0:=by decide
   go_wp2_with(first
    |with_reducible refine lL D.out.Ag Ak ?_
    |with_reducible refine lS (Ai s q) D.out.Ah ?_)
   refine rT3 () (.int .i64 18) D.out.Ah Ak ?_;exact ah.out _ (D.out.row 1 (Ai s q) _ rfl).below
 ·have ao:(0:Int)≤(k:Int):=by omega
  clear y u o m;have ai:=Hq (K2 hk S fun j hj aj=>T j aj);clear S T
  go_wp2_with(first
   |with_reducible refine lL H1.out.Ag Ak ?_
   |with_reducible refine lS (Ai s p) H1.out.Ah ?_)
  refine rT3 (.int .i64 (k:Int)) () H1.out.Ah Ak ?_;exact E.out _ (H1.out.row 1 (Ai s p) _ rfl).below k ai.out
def cG (d:Lg.Dk)(a:Nat):ByteArray×Int:=if d.down=true then(⟨#[]⟩,20)else(Hg d a,0)
theorem Wi (d:Lg.Dk)(b:d.down=true)(A:Option Addr)(c:Nat)(a:Nat)(B:a≤1000000)(w:World)(h:By w d A c):
 Cr 208 #[Cd d A c,.int .i64 (a:Int)] w (.tuple #["",.int .i64 20]):=by
 have p:=Hq (fun W (v:Bw w W)=>show Cr 259 #[Cd d A c,.int .i64 (a:Int)] W (.tuple #["",.int .i64 20]) from by
  have u:=Um d A c (a:Int) W (h.below v);have e:Lg.Jy d (a:Int)=(⟨#[]⟩,20):=by unfold Lg.Jy;rw[if_pos b]
  rw[e]at u;exact u)
 obtain⟨L,left,down⟩:=d;simp only at b;subst b;dsimp only[Cd]at p ⊢;clear h;go_enter Tryz.func208,Tryz.ntmps208;go_upto_region 1 with fail;have f:=Hq (heap_alloc_new w (.cells #[.slice A L.length c,left,true] 28));have g:=Hq (Ad w (.cells #[.slice A L.length c,left,true] 28));obtain⟨o,m⟩:=ex (w.alloc (.cells #[.slice A L.length c,left,true] 28));rw[← m]at f g ⊢;clear m;have b:=show o.cell? ⟨w.heap.size,2,none⟩=some (.bool true)from by rw[Aa f.out];rfl
 go_upto_region 4 with fail;clear b;have j:=Hq (Ac f.out (Ad o (.cells #[.pointer none,'s'] 164)));have k:=Hq (Ae g.out (Ad o (.cells #[.pointer none,'s'] 164)));generalize o.alloc (.cells #[.pointer none,'s'] 164)=W1 at j k ⊢;clear f g
 try simp only[Act.put]
 go_wp2_with fail
 go_loopw [19] (fun i wr=>i= .int .i64 0∧wr.heap[w.heap.size]? =some (.cells #[.slice A L.length c,left,true] 28 (0,0))∧Bw w wr) (fun i _=>4-(intOf i).toNat)
 case atStart=>exact⟨rfl,j.out,k.out⟩
 case round=>
  obtain⟨rfl,n,l⟩:=hrel;have q:=Hq n;have r:=Hq l;have s:=Hq (p.out wr l);clear n l p j k;have x:IntKind.i64.wrap ((a:Int)+0)=(a:Int):=IntWalk.i64_in _ (by omega);have y:IntKind.i64.wrap (a:Int)=(a:Int):=IntWalk.i64_in _ (by omega);have z:(a:Int)+0=(a:Int):=by omega
  go_wp2_with(first
   |with_reducible refine lL q.out Bz ?_
   |(go_at_call 259;(with_reducible refine s.out.mono ?_);rintro e C ⟨rfl,t⟩))
  go_ret2;exact⟨rfl,Ae r.out t⟩
theorem Ta {M:Nat}(d:Lg.Dk)(e:Mp M d)(A:Option Addr)(c:Nat)(a:Nat)(f:a+4≤M)(g:M≤100000)(w:World)(h:By w d A c):
 Cr 208 #[Cd d A c,.int .i64 (a:Int)] w (.tuple #[.string (cG d a).1,.int .i64 (cG d a).2]):=by
 have i:=e.len;unfold cG
 by_cases b:d.down=true
 ·rw[if_pos b]
  exact Wi d b A c a (by omega) w h
 ·rw[if_neg b]
  exact T5 d (by simpa using b) e.sz A c a (by omega) w h
theorem cH {N n B:Nat}(s:Tx.St)(p:SP)(fs:List Fr)(I:Wf N n B s fs)(pg:Nat)(hp:pg<n)(w:World)(h:By w s.Am p.A p.c):
 Cr 147 #[Af s p,.int .i64 (pg:Int)] w (.tuple #[.string (Db s (pg:Int)).1,.int .i64 (Db s (pg:Int)).2]):=by
 have M:=I.n1;have O:Ec s (pg:Int)=1+N+4*pg:=by unfold Ec;rw[I.zl];omega
 have D:=Hq (fun W=>Qi s p N pg I.zl M.2.2 (by omega) W);have k:=Hq (fun W (hb:Bw w W)=>Ta s.Am I.dk p.A p.c (1+N+4*pg) (by omega) (by omega) W (h.below hb));have o:(Hg s.Am (1+N+4*pg)).size≤512:=by
  have h1:=Lg.Di (L:=(s.Am.sectors.drop (1+N+4*pg)).take 4) (fun x hx=>I.dk.sz x (List.mem_of_mem_drop (List.mem_of_mem_take hx)));have h2:=List.length_take_le 4 (s.Am.sectors.drop (1+N+4*pg))
  show(Lg.flat _).toArray.size≤512
  rw[List.size_toArray];omega
 have T:(s.Am.down=true∧cG s.Am (1+N+4*pg)=(⟨#[]⟩,20)∧Db s (pg:Int)=(⟨#[]⟩,20))∨(s.Am.down=false∧cG s.Am (1+N+4*pg)=(Hg s.Am (1+N+4*pg),0)∧Db s (pg:Int)=if Hg s.Am (1+N+4*pg)=Ij then(Gk 0,0)else if Gs (Hg s.Am (1+N+4*pg))=true then(J6 (Hg s.Am (1+N+4*pg)),0)else(⟨#[]⟩,19)):=by
  unfold cG Db;rw[O]
  cases hd:s.Am.down with
  |true=>exact .inl ⟨rfl,by rw[if_pos rfl],by rw[if_pos rfl]⟩
  |false=>exact .inr ⟨rfl,by rw[if_neg (by decide)],by rw[if_neg (by decide)]⟩
 generalize Hg s.Am (1+N+4*pg)=b at T o;generalize cG s.Am (1+N+4*pg)=z at k T;generalize Db s (pg:Int)=q at T ⊢;clear h I M O;generalize 1+N+4*pg=at_ at D k;obtain⟨E,z2⟩:=z;simp only at k;go_enter Tryz.func147,Tryz.ntmps147;go_upto_region 1 with fail;have r:=Tq w (Ai s p) 36;obtain⟨J,P⟩:=Dr r;rw[← P]at r ⊢;clear P
 go_cut [6,7] (fun x y wc=>x= .string E∧y= .int .i64 z2∧Bw J wc)
 case first=>
  have hSn:Bw J J.drew:=(Below.refl _ J).drew;refine E4 (S:=(fun u=>Bw J u)) (fun d=>?_);generalize J.drew=w9 at hSn ⊢;refine Au 0 ?_;refine Kt 1 (some 10) (v:=.agg #[.slice p.A s.Am.sectors.length p.c,s.Am.left,s.Am.down]) rfl (yieldsIf_load_mid (by rfl) 28 (.tmp 9) rfl w.heap.size 3 (by rfl) [.slice p.A s.Am.sectors.length p.c,.int .i64 s.Am.left,.bool s.Am.down] _ (fun u V j v U=>by rw[Aa (Ac r.out.Ag V)];rcases j with _|_|_|j<;>simp at U ⊢<;>exact U) Bz Kr Kr) ?_
  try simp only[Act.put,pS]
  refine Kt 2 (some 11) (v:=.agg (Ai s p)) rfl (yieldsIf_load_mid (by rfl) 36 (.tmp 2) rfl w.heap.size 0 (by rfl) (Ai s p).toList _ (fun u V=>(by intro j v U;rw[Nat.zero_add,Aa (Ac r.out.Ag V)];simpa using U)) Ak Kr Kr) ?_
  try simp only[Act.put,pS]
  refine Au 3 ?_;refine Bx 4 fun K Q=>?_
  go_simp
  (refine(D.out _).mono ?_);rintro e w4 ⟨rfl,F⟩;have l:=Ae hSn F;clear hSn;have hSn:=l;clear l
  refine Bl Q (fun d=>?_);clear Q K;refine Bx 5 fun K Q=>?_
  go_simp
  (refine(k.out _ (r.out.below.trans (hSn.mono r.out.below.size))).mono ?_);rintro e w5 ⟨rfl,X⟩;have l:=Ae hSn X;clear hSn;have hSn:=l;clear l
  refine Bl Q (fun d=>?_);clear Q K;refine Au 6 ?_;refine Au 7 ?_;refine Au 8 ?_;refine Au 9 ?_;refine Au 10 ?_;refine wpAnyH_done Kr ?_ _;clear d;go_wp2_with fail;go_meet
  case rel=>exact⟨rfl,rfl,hSn⟩
 case rest=>
  obtain⟨rfl,rfl,R⟩:=hcut;obtain⟨w1,rfl⟩:=ex wc;have a:=Hq (r.out.below.trans (R.mono r.out.below.size));clear R r D k;rcases T with⟨_,Y,t⟩|⟨_,Y,t⟩
  ·injection Y with G H
   subst G H;subst t;clear o;go_wp2_with fail;go_ret2;exact⟨rfl,a.out⟩
  ·injection Y with G H
   subst G H;have a8:∀ W:World,(Instr.makeSlice 104 (.int .i64 512) (.int .i64 512)).run Tryz.prog W= .ok (.slice (some ⟨W.heap.size,0,none⟩) 512 512) (W.alloc (.cells (madeCells #[Value.int .u8 0] 512) 5)):=fun W=>Lj 512 (by omega) W;have Z:=Lk 512;rw[show(⟨(List.replicate 512 0).toArray⟩:ByteArray)=Ij from rfl]at Z;have f:=Ad w1 (.cells (madeCells #[Value.int .u8 0] 512) 5)
   by_cases g:E=Ij
   ·rw[if_pos g]at t
    subst t;have a1:(E.toList==Ij.toList)=true:=(by rw[g];exact beq_self_eq_true _);have a6:=Hq (fun W=>pP 0 W);clear g
    go_wp2_with(go_at_call 129;refine(a6.out _).mono ?_;rintro e w2 ⟨rfl,m⟩)
    go_ret2;exact⟨rfl,a.out.trans ((f.mono a.out.size).trans (m.mono (Nat.le_trans a.out.size f.size)))⟩
   ·rw[if_neg g]at t
    have a1:(E.toList==Ij.toList)=false:=by
     rw[beq_eq_false_iff_ne];intro h;rw[ByteArray.toList_eq,ByteArray.toList_eq]at h;exact g (ByteArray.ext (Array.toList_inj.1 h))
    have C:=Hq (fun W=>aR E (by omega) W);clear g
    cases i:Gs E with
    |true=>
     rw[i,if_pos rfl]at t;rw[i]at C;subst t;have a7:=Hq (fun W=>Uv E (by omega) W);clear i o
     go_wp2_with(first
      |(go_at_call 210;refine(C.out _).mono ?_;rintro e w2 ⟨rfl,m⟩)
      |(go_at_call 211;refine(a7.out _).mono ?_;rintro e w3 ⟨rfl,F⟩))
     go_ret2;exact⟨rfl,a.out.trans ((f.mono a.out.size).trans ((Ae m F).mono (Nat.le_trans a.out.size f.size)))⟩
    |false=>
     rw[i,if_neg (by decide)]at t;rw[i]at C;subst t;clear i o
     go_wp2_with(go_at_call 210;refine(C.out _).mono ?_;rintro e w2 ⟨rfl,m⟩)
     go_ret2;exact⟨rfl,a.out.trans ((f.mono a.out.size).trans (m.mono (Nat.le_trans a.out.size f.size)))⟩
def Qk (x:Px×Nat)(w:World)(e:Ending)(w':World):Prop:=∃ q:SP,e= .returned (.tuple #[Af x.1.s q,.int .i64 (x.2:Int),x.1.e])∧An w' x.1.s q x.1.fs∧Bw w w'
theorem Wj {N n B:Nat}{s:Tx.St}{fs:List Fr}(h:Wf N n B s fs):(A9 s fs).1.fs.length≤100∧(A9 s fs).2<(A9 s fs).1.fs.length:=by
 obtain⟨a,b,c⟩:=h.room;have:=h.nf;omega
theorem K3 {N n B:Nat}(s:Tx.St)(p:SP)(fs:List Fr)(hW:Wf N n B s fs)(hB:B≤1000000)(pg:Int)(w:World)(h:An w s p fs):
 Cq 71 #[Af s p,pg] w (Qk (Aq s fs pg) w):=by
 have ag:=hW.nf;have ah:fs.length≤100:=by omega
 have ai:=hW.zp;have L:=Hq (fun W=>L5 s p n hW.zp pg W);obtain⟨X,hX⟩:=ex (Aq s fs pg);rw[← hX]
 by_cases O:0≤pg∧pg<(n:Int)
 ·rw[decide_eq_true O]at L
  obtain⟨o,rfl⟩:∃ o:Nat,pg=(o:Int):=⟨pg.toNat,by omega⟩;have hh:Gh s (o:Int):=⟨O.1,by omega⟩;have aj:=Hq (fun W (v:Bw w W)=>Mo s p fs (by omega) (o:Int) W (h.below v));have P:=Hq (fun W (v:Bw w W)=>cH s p fs hW o (by omega) W (h.st.dk.below v));have E:=Hq (fun W (v:Bw w W)=>S1 s p fs hW hB W (h.below v));have a1:=Hq (fun k hk f W (v:Bw w W)=>Gx s p fs ah k hk f W (h.below v));have aw:=Hq h.fn;have HP:=Hq h;have a6:=Wj hW;have aa:=Hq (fun k (ha:Jl fs (o:Int)=some k) (hk:k<fs.length) w' (q:SP) (hp:An w' s q (fs.set k {fs[k]with mark:=true})) (v:Bw w w')=>show Qk X w (.returned (.tuple #[Af s q,.int .i64 (k:Int),()])) w' from by
   have e:X=(⟨s,fs.set k {fs[k]with mark:=true},0⟩,k):=(by rw[hX];unfold Aq;rw[if_neg (fun D=>D hh),ha];simp only;rw[Br hk]);rw[e];exact⟨q,rfl,hp,v⟩)
  have G:=Hq (fun(ha:Jl fs (o:Int)=none) (hl:¬ (Db s (o:Int)).2=0) w' (v:Bw w w')=>show Qk X w (.returned (.tuple #[Af s p,(),.int .i64 (Db s (o:Int)).2])) w' from by
   have e:X=(⟨s,fs,(Db s (o:Int)).2⟩,0):=(by rw[hX];unfold Aq;rw[if_neg (fun D=>D hh),ha];simp only;rw[if_pos hl]);rw[e];exact⟨p,rfl,h.below v,v⟩)
  have a:=Hq (fun(ha:Jl fs (o:Int)=none) (hl:(Db s (o:Int)).2=0) (hr:¬ (A9 s fs).1.e=0) w' (q:SP) (hp:An w' (De s fs (A9 s fs).1).s q (De s fs (A9 s fs).1).fs) (v:Bw w w')=>show Qk X w (.returned (.tuple #[Af (De s fs (A9 s fs).1).s q,(),.int .i64 (A9 s fs).1.e])) w' from by
   have e:X=(De s fs (A9 s fs).1,0):=(by rw[hX];unfold Aq;rw[if_neg (fun D=>D hh),ha];simp only;rw[if_neg (fun D=>D hl),if_neg hr]);have e2:(A9 s fs).1.e=(De s fs (A9 s fs).1).e:=(by unfold De;split<;>rfl);rw[e,e2];exact⟨q,rfl,hp,v⟩)
  have x:=Hq (fun(ha:Jl fs (o:Int)=none) (hl:(Db s (o:Int)).2=0) (hr:(A9 s fs).1.e=0) w' (q:SP) (hp:An w' (A9 s fs).1.s q ((A9 s fs).1.fs.set (A9 s fs).2 ⟨(o:Int),(Db s (o:Int)).1,0,true,0⟩)) (v:Bw w w')=>show Qk X w (.returned (.tuple #[Af (A9 s fs).1.s q,.int .i64 ((A9 s fs).2:Int),()])) w' from by
   have e:X=(⟨(A9 s fs).1.s,(A9 s fs).1.fs.set (A9 s fs).2 ⟨(o:Int),(Db s (o:Int)).1,0,true,0⟩,0⟩,(A9 s fs).2):=(by rw[hX];unfold Aq;rw[if_neg (fun D=>D hh),ha];simp only;rw[if_neg (fun D=>D hl),if_pos hr]);rw[e];exact⟨q,rfl,hp,v⟩)
  clear hX hW hh;generalize Qk X w=Q at aa G a x ⊢;generalize Db s (o:Int)=l at P G a x;obtain⟨lb,le⟩:=l;simp only at P G a x;have c:=Hq (show De s fs (A9 s fs).1=if(A9 s fs).1.e=0∨(A9 s fs).1.e=20 then(A9 s fs).1 else⟨s,fs,(A9 s fs).1.e⟩from rfl);generalize De s fs (A9 s fs).1=bk at a c;generalize A9 s fs=r at E a x a6 c;obtain⟨⟨xs,ak,Y⟩,xk⟩:=r;simp only at E a x a6 c;clear h ag ai;go_enter Tryz.func71,Tryz.ntmps71;go_upto_region 1 with fail;have Z:=Il w (Ai s p) 36 #[(),(),(),'s',(),false,(),(),(),(),"",'s',(),'s',()] 36;obtain⟨W0,R⟩:=Dr Z;rw[← R]at Z ⊢;clear R
  go_upto_region 3 with(first|with_reducible refine lL Z.out.Ag Ak ?_|(go_at_call 145;refine(L.out _).mono ?_;rintro e w1 ⟨rfl,a7⟩;have H1:=Hq (Z.out.step a7)))
  go_upto_region 4 with(first|with_reducible refine lL H1.out.Ag Ak ?_|(go_at_call 50;refine(aj.out _ H1.out.below).mono ?_;rintro e w2 ⟨kk,rfl,hq,al⟩;have H2:=Hq (H1.out.step al)))
  clear a7 al Z H1 L aj;rcases hq with⟨rfl,hq⟩|⟨k,hk,rfl,an,ao⟩
  ·have bb:¬ (0:Int)≤-1:=by decide
   have z:=Hq (Ik hq);clear hq a1 aa
   go_upto_region 9 with(first|with_reducible refine lL H2.out.Ag Ak ?_|(go_at_call 147;refine(P.out _ H2.out.below).mono ?_;rintro e w3 ⟨rfl,aq⟩;have H3:=Hq (H2.out.step aq)))
   clear aq H2 P
   by_cases H:le=0
   ·have ax:(le != 0)=false:=by rw[H];rfl
    have S:=Hq H;clear H G
    go_upto_region 12 with(first
     |with_reducible refine lL H3.out.Ag Ak ?_
     |(go_at_call 148;refine(E.out _ H3.out.below).mono ?_;rintro e w4 ⟨q,rfl,ar,ad⟩)
     |with_reducible refine sN (Ai xs q) ?_)
    have T:=ad.trans ((Ad w4 (.cells (Ai xs q) 36)).mono ad.size);have H5:=Hq (H3.out.step T);have d:=Hq (heap_alloc_new w4 (.cells (Ai xs q) 36));have I:=Hq (fun hx=>(ar hx).below (Ad w4 (.cells (Ai xs q) 36)));obtain⟨g,hg⟩:=ex w4.heap.size;obtain⟨w5,y⟩:=ex (w4.alloc (.cells (Ai xs q) 36));rw[← hg,← y]at d;rw[← y]at H5 I;rw[← y,← hg];clear y hg ad T H3 E ar
    try simp only[Act.put]
    by_cases m:Y=0
    ·have ay:(Y != 0)=false:=by rw[m];rfl
     have a8:=Hq m;have ae:=Hq (I.out (.inl m));clear m I a c;have a1:=Hq (show ∀ W,An W xs q ak→_ from fun W hp=>Gx xs q ak a6.1 xk a6.2 ⟨(o:Int),lb,0,true,0⟩ W hp)
     go_wp2_with(first
      |with_reducible refine lL d.out Ak ?_
      |(go_at_call 146;refine(a1.out _ ae.out).mono ?_;rintro e w6 ⟨q6,rfl,az,J⟩;have u:=Hq (H5.out.step J))
      |with_reducible refine lS (Ai xs q6) u.out.Ah ?_)
     refine rT3 (.int .i64 (xk:Int)) () u.out.Ah Ak ?_;exact x.out z.out S.out a8.out _ q6 (az.other (t:=36) u.out.Ah (by decide) (by decide) (by decide) _) (u.out.row 1 (Ai xs q6) _ rfl).below
    ·have ay:(Y != 0)=true:=by rw[bne_iff_ne];exact m
     have a8:=Hq m;clear x
     by_cases A:Y=20
     ·have af:=Hq (fun W=>show Cr 149 #[Af s p,Af xs q,Y] W (Af xs q) from by
       have h0:=Ga s p xs q Y W;rw[if_pos (.inr A)]at h0;exact h0)
      have ae:=Hq (I.out (.inr A));have U:=c.out;rw[if_pos (.inr A)]at U;subst U;clear m A I c
      go_wp2_with(first
       |with_reducible refine lL H5.out.Ag Ak ?_
       |with_reducible refine lL d.out Ak ?_
       |(go_at_call 149;refine(af.out _).mono ?_;rintro e w6 ⟨rfl,J⟩;have u:=Hq (H5.out.step J))
       |with_reducible refine lS (Ai xs q) u.out.Ah ?_)
      refine rT3 () Y u.out.Ah Ak ?_;exact a.out z.out S.out a8.out _ q ((ae.out.below J).other (t:=36) u.out.Ah (by decide) (by decide) (by decide) _) (u.out.row 1 (Ai xs q) _ rfl).below
     ·have af:=Hq (fun W=>show Cr 149 #[Af s p,Af xs q,Y] W (Af s p) from by
       have h0:=Ga s p xs q Y W;rw[if_neg (fun h=>h.elim m A)]at h0;exact h0)
      have U:=c.out;rw[if_neg (fun h=>h.elim m A)]at U;subst U;clear m A I c
      go_wp2_with(first
       |with_reducible refine lL H5.out.Ag Ak ?_
       |with_reducible refine lL d.out Ak ?_
       |(go_at_call 149;refine(af.out _).mono ?_;rintro e w6 ⟨rfl,J⟩;have u:=Hq (H5.out.step J))
       |with_reducible refine lS (Ai s p) u.out.Ah ?_)
      refine rT3 () Y u.out.Ah Ak ?_;exact a.out z.out S.out a8.out _ p ((HP.out.below u.out.below).other (t:=36) u.out.Ah (by decide) (by decide) (by decide) _) (u.out.row 1 (Ai s p) _ rfl).below
   ·have ax:(le != 0)=true:=by rw[bne_iff_ne];exact H
    have S:=Hq H;clear H a x E c
    go_wp2_with(first|with_reducible refine lL H3.out.Ag Ak ?_|with_reducible refine lS (Ai s p) H3.out.Ah ?_)
    refine rT3 () le H3.out.Ah Ak ?_;exact G.out z.out S.out _ (H3.out.row 1 (Ai s p) _ rfl).below
  ·have bc:(0:Int)≤(k:Int):=by omega
   have bd:(k:Int)<(fs.length:Int):=(by omega);have b0:=Hq (Hc hk an fun j hj b1=>ao j b1);have hc:=show w2.cell? ⟨w.heap.size,11,none⟩=some (.slice p.F fs.length p.fc)from(by rw[Aa H2.out.Ag,← aw.out];rfl);obtain⟨b,off,au,b2,b3,C⟩:=Bi Cc (HP.out.fr.below H2.out.below) hk;obtain⟨f,V⟩:=ex (fs[k]);have b4:=Hq V;rw[← V]at C;rw[au]at hc;have b5:=Hq (show w2.rangeAt b (off+k*5) (F4 f)from C);clear C b2 b3 au V an ao P E G a x c
   go_upto_region 6 with(first
    |(refine Bt Kr fun K hK=>wp_load_mid 116 (.tmp 27) rfl b (off+k*5) rfl (F4 f) _ b5.out Cw Kr Kr (hK _ _ ?_))
    |with_reducible refine sN (Cg f) ?_)
   have T:=Ad w2 (.cells (Cg f) 116);have H5:=Hq (H2.out.step T);have d:=Hq (heap_alloc_new w2 (.cells (Cg f) 116));have b6:w.heap.size+1<w2.heap.size:=H2.out.lt (i:=1) (by simp);obtain⟨g,hg⟩:=ex w2.heap.size;obtain⟨w5,y⟩:=ex (w2.alloc (.cells (Cg f) 116));rw[← hg,← y]at d;rw[← y]at H5;rw[← y,← hg];rw[← hg]at b6;clear y hg T H2 hc
   try simp only[Act.put]
   have b7:=show w5.cell? ⟨g,3,none⟩=some (.bool f.mark)from(by rw[Aa d.out];rfl);have b8:=Ao d.out 3;go_upto_region 7 with fail;have av:=Hq (show(w5.setCell ⟨g,3,none⟩ (.bool true)).heap[g]? =some (.cells (Cg {f with mark:=true}) 116 (0,0))from by have:=Bs 3 d.out (.bool true);simpa using this);have u:=Hq (H5.out.under (M:=g) (by simp;omega) ((Below.refl _ w5).setCell (p:=⟨g,3,none⟩) (Nat.le_refl _) (.bool true)));generalize w5.setCell ⟨g,3,none⟩ (.bool true)=w6 at av u ⊢;clear b7 b8 d H5
   go_wp2_with(first
    |with_reducible refine lL u.out.Ag Ak ?_
    |with_reducible refine lL av.out Cw ?_
    |(go_at_call 146;refine(a1.out k hk {f with mark:=true} _ u.out.below).mono ?_;rintro e w7 ⟨q,rfl,b9,ba⟩;have H7:=Hq (u.out.step ba))
    |with_reducible refine lS (Ai s q) H7.out.Ah ?_)
   refine rT3 (.int .i64 (k:Int)) () H7.out.Ah Ak ?_;have V:=b4.out;subst V;exact aa.out k b0.out hk _ q (b9.other (t:=36) H7.out.Ah (by decide) (by decide) (by decide) _) (H7.out.row 1 (Ai s q) _ rfl).below
 ·rw[decide_eq_false O]at L
  have hh:¬ Gh s pg:=fun D=>O ⟨D.1,by have:=D.2;omega⟩;have z:=Hq (fun w' (v:Bw w w')=>show Qk X w (.returned (.tuple #[Af s p,(),.int .i64 1])) w' from by
   have e:X=(⟨s,fs,1⟩,0):=(by rw[hX];unfold Aq;rw[if_pos hh]);rw[e];exact⟨p,rfl,h.below v,v⟩)
  generalize Qk X w=Q at z ⊢;clear h hX hW hh O ag ai ah;go_enter Tryz.func71,Tryz.ntmps71;go_upto_region 1 with fail;have Z:=Il w (Ai s p) 36 #[(),(),(),'s',(),false,(),(),(),(),"",'s',(),'s',()] 36;obtain⟨W0,R⟩:=Dr Z;rw[← R]at Z ⊢;clear R
  go_upto_region 2 with(first|with_reducible refine lL Z.out.Ag Ak ?_|(go_at_call 145;refine(L.out _).mono ?_;rintro e w1 ⟨rfl,a7⟩;have H1:=Hq (Z.out.step a7)))
  go_wp2_with(first|with_reducible refine lL H1.out.Ag Ak ?_|with_reducible refine lS (Ai s p) H1.out.Ah ?_)
  refine rT3 () (.int .i64 1) H1.out.Ah Ak ?_;exact z.out _ (H1.out.row 1 (Ai s p) _ rfl).below
theorem C4.lt {n:Nat}{w:World}{T:TypeId}{A:Option Addr}(h:C4 n w T A):∀ ad,A=some ad→ad.block<w.heap.size:=fun ad e=>by
 obtain⟨_,cs,b,a⟩:=h ad e;exact C0 a
def Fi (x:Px×ByteArray)(w:World)(e:Ending)(w':World):Prop:=∃ q:SP,e= .returned (.tuple #[Af x.1.s q,x.2,x.1.e])∧An w' x.1.s q x.1.fs∧Bw w w'
theorem Mq {N n B:Nat}(s:Tx.St)(p:SP)(fs:List Fr)(hW:Wf N n B s fs)(hB:B≤1000000)(pg:Int)(w:World)(h:An w s p fs):
 Cq 19 #[Af s p,pg] w (Fi (Jm s fs pg) w):=by
 have A:=Hq (fun W (P:Bw w W)=>K3 s p fs hW hB pg W (h.below P));have E:=hW.held pg;obtain⟨X,hX⟩:=ex (Jm s fs pg);rw[← hX];have j:=Hq (fun(h0:(Aq s fs pg).1.e=0) w' (q:SP) (hp:An w' (Aq s fs pg).1.s q (Aq s fs pg).1.fs) (P:Bw w w')=>show Fi X w (.returned (.tuple #[Af (Aq s fs pg).1.s q,.string (Cp (Aq s fs pg).1.fs (Aq s fs pg).2).bytes,()])) w' from by
  have e:X=((Aq s fs pg).1,(Cp (Aq s fs pg).1.fs (Aq s fs pg).2).bytes):=by rw[hX];unfold Jm;rw[if_pos h0]
  rw[e,← h0];exact⟨q,rfl,hp,P⟩)
 have m:=Hq (fun(h0:¬ (Aq s fs pg).1.e=0) w' (q:SP) (hp:An w' (Aq s fs pg).1.s q (Aq s fs pg).1.fs) (P:Bw w w')=>show Fi X w (.returned (.tuple #[Af (Aq s fs pg).1.s q,"",.int .i64 (Aq s fs pg).1.e])) w' from by
  have e:X=((Aq s fs pg).1,⟨#[]⟩):=by rw[hX];unfold Jm;rw[if_neg h0]
  rw[e];exact⟨q,rfl,hp,P⟩)
 have ad:=hW.nf;clear hX hW h;generalize Fi X w=Q at j m ⊢;generalize Aq s fs pg=r at A j m E;obtain⟨⟨xs,c,xe⟩,F⟩:=r;simp only at A j m E;have R:F<c.length:=by omega
 have hlen:c.length≤100:=by omega
 rw[Br R]at j;clear E ad;go_enter Tryz.func19,Tryz.ntmps19;go_upto_region 1 with fail;have G:=Il w (Ai s p) 36 #[(),(),(),'s',(),false,(),(),(),(),"",'s',(),'s',()] 36;obtain⟨W0,T⟩:=Dr G;rw[← T]at G ⊢;clear T
 go_upto_region 2 with(first
  |with_reducible refine lL G.out.Ag Ak ?_
  |(go_at_call 71;refine(A.out _ G.out.below).mono ?_;rintro e M ⟨q,rfl,U,C⟩)
  |with_reducible refine sN (Ai xs q) ?_)
 have V:=C.trans ((Ad M (.cells (Ai xs q) 36)).mono C.size);have H:=Hq (G.out.step V);have I:=Hq (heap_alloc_new M (.cells (Ai xs q) 36));have k:=Hq (U.below (Ad M (.cells (Ai xs q) 36)));have ae:w.heap.size+1<M.heap.size:=Nat.lt_of_lt_of_le (G.out.lt (i:=1) (by simp)) C.size;obtain⟨g,hg⟩:=ex M.heap.size;obtain⟨w5,D⟩:=ex (M.alloc (.cells (Ai xs q) 36));rw[← hg,← D]at I;rw[← D]at H k;rw[← D,← hg];rw[← hg]at ae;clear D hg C V G A U
 try simp only[Act.put]
 by_cases l:xe=0
 ·have af:(xe != 0)=false:=by rw[l];rfl
  have J:=Hq l;obtain⟨b,off,L,ag,ah,o⟩:=Bi Cc k.out.fr R;have Y:=k.out.ft _ L;have Z:=o 1 (.string c[F].bytes) rfl;have d:=Hq k.out.fn;have an:(0:Int)≤(F:Int):=by omega
  have ao:(F:Int)<(c.length:Int):=by omega
  have f:=Hq L;have a1:b≠w.heap.size+1:=fun e=>by
   obtain⟨_,cs,fr,O⟩:=Y;have h2:=H.out.Ah;rw[show(⟨b,off,none⟩:Addr).block=b from rfl,e,h2]at O
   injection O with O
   injection O with _ O
   exact absurd O (by decide)
  have ai:=Hq a1;generalize c[F].bytes=fb at Z j;clear l o ag ah L Y a1 m;go_upto_region 4 with fail
  go_cut [5,6] (fun x y wc=>x= .string fb∧y= .int .i64 0∧wc.heap[w.heap.size+1]? =some (.cells (Ai xs q) 36 (0,0))∧An wc xs q c∧Bw w wc)
  case first=>
   have hSn:w5.drew.heap[g]? =some (.cells (Ai xs q) 36 (0,0))∧w5.drew.cell? ⟨b,off+F*5+1,none⟩=some (.string fb):=⟨I.out,Z⟩;have H9:=H.out.drew;have a6:=k.out.below (Below.refl _ w5).drew;refine E4 (S:=(fun u=>u.heap[g]? =some (.cells (Ai xs q) 36 (0,0))∧u.cell? ⟨b,off+F*5+1,none⟩=some (.string fb))) (fun z=>?_);generalize w5.drew=w9 at hSn H9 a6 ⊢;refine Q3 0 Ak ?_;refine Au 1 ?_ (hy:=by
    intro u a;have hcl0:=show u.cell? ⟨g,11,none⟩=some (.slice (some ⟨b,off,none⟩) c.length q.fc)from(by rw[Aa a.1,← f.out,← d.out];rfl);have hcl1:=a.2;clear a;go_simp;(try with_reducible rfl))
   refine Au 2 ?_ (hy:=by
    intro u a;have hcl0:=show u.cell? ⟨g,11,none⟩=some (.slice (some ⟨b,off,none⟩) c.length q.fc)from(by rw[Aa a.1,← f.out,← d.out];rfl);have hcl1:=a.2;clear a;go_simp;(try with_reducible rfl))
   refine Au 3 ?_ (hy:=by
    intro u a;have hcl0:=show u.cell? ⟨g,11,none⟩=some (.slice (some ⟨b,off,none⟩) c.length q.fc)from(by rw[Aa a.1,← f.out,← d.out];rfl);have hcl1:=a.2;clear a;go_simp;(try with_reducible rfl))
   refine Au 4 ?_ (hy:=by
    intro u a;have hcl0:=show u.cell? ⟨g,11,none⟩=some (.slice (some ⟨b,off,none⟩) c.length q.fc)from(by rw[Aa a.1,← f.out,← d.out];rfl);have hcl1:=a.2;clear a;go_simp;(try with_reducible rfl))
   refine Au 5 ?_ (hy:=by
    intro u a;have hcl0:=show u.cell? ⟨g,11,none⟩=some (.slice (some ⟨b,off,none⟩) c.length q.fc)from(by rw[Aa a.1,← f.out,← d.out];rfl);have hcl1:=a.2;clear a;go_simp;(try with_reducible rfl))
   refine Au 6 ?_ (hy:=by
    intro u a;have hcl0:=show u.cell? ⟨g,11,none⟩=some (.slice (some ⟨b,off,none⟩) c.length q.fc)from(by rw[Aa a.1,← f.out,← d.out];rfl);have hcl1:=a.2;clear a;go_simp;(try with_reducible rfl))
   refine Au 7 ?_ (hy:=by
    intro u a;have hcl0:=show u.cell? ⟨g,11,none⟩=some (.slice (some ⟨b,off,none⟩) c.length q.fc)from(by rw[Aa a.1,← f.out,← d.out];rfl);have hcl1:=a.2;clear a;go_simp;(try with_reducible rfl))
   refine Bx 8 fun K hK=>?_;refine Az (by rfl) ?_;refine sW (Ai xs q) H9.Ah ?_;have a7:=H9.row 1 (Ai xs q) _ rfl;have a8:=a6.other (t:=36) H9.Ah (by decide) (by decide) (by decide) (Ai xs q);have aa:=And.intro ((Aj _ _ (Ai xs q) _ (show g≠w.heap.size+1 by omega)).trans hSn.1) (O6 (cs:=(Ai xs q)) hSn.2 H9.Ah ai.out);clear hSn;have hSn:=aa;clear aa;refine Bl hK (fun z=>?_);clear hK K;refine Au 9 ?_ (hy:=by
    intro u a;have hcl0:=show u.cell? ⟨g,11,none⟩=some (.slice (some ⟨b,off,none⟩) c.length q.fc)from(by rw[Aa a.1,← f.out,← d.out];rfl);have hcl1:=a.2;clear a;go_simp;(try with_reducible rfl))
   refine Au 10 ?_ (hy:=by
    intro u a;have hcl0:=show u.cell? ⟨g,11,none⟩=some (.slice (some ⟨b,off,none⟩) c.length q.fc)from(by rw[Aa a.1,← f.out,← d.out];rfl);have hcl1:=a.2;clear a;go_simp;(try with_reducible rfl))
   refine wpAnyH_done Kr ?_ _;clear z;go_wp2_with fail;go_meet
   case rel=>exact⟨rfl,rfl,a7.Ah,a8,a7.below⟩
  case rest=>
   obtain⟨rfl,rfl,aj,ak,al⟩:=hcut;go_wp2_with fail;refine bodyPost_ret (v:=.tuple #[.agg (Ai xs q),fb,()]) (M0 rfl _ _ rfl (Ct aj Ak Kr Kr) rfl rfl) rfl ?_;exact j.out J.out _ q ak al
 ·have af:(xe != 0)=true:=by rw[bne_iff_ne];exact l
  have J:=Hq l;clear l j
  go_wp2_with(first|with_reducible refine lL I.out Ak ?_|with_reducible refine lS (Ai xs q) H.out.Ah ?_)
  refine rT3 "" xe H.out.Ah Ak ?_;exact m.out J.out _ q (k.out.other (t:=36) H.out.Ah (by decide) (by decide) (by decide) _) (H.out.row 1 (Ai xs q) _ rfl).below
theorem iQ {N n B:Nat}(s:Tx.St)(p:SP)(fs:List Fr)(hW:Wf N n B s fs)(hB:B≤1000000)(pg:Int)(w:World)(h:An w s p fs):
 Cq 105 #[Af s p,pg] w (Bk (My s fs pg) w):=by
 have u:=Hq (fun W (U:Bw w W)=>K3 s p fs hW hB pg W (h.below U));have v:=hW.held pg;obtain⟨X,hX⟩:=ex (My s fs pg);rw[← hX];have a:=Hq (fun(h0:(Aq s fs pg).1.e=0) w' (q:SP) (V:An w' (Aq s fs pg).1.s q ((Aq s fs pg).1.fs.set (Aq s fs pg).2 {Cp (Aq s fs pg).1.fs (Aq s fs pg).2 with pins:=(Cp (Aq s fs pg).1.fs (Aq s fs pg).2).pins+1})) (U:Bw w w')=>show Bk X w (.returned (.tuple #[Af (Aq s fs pg).1.s q,()])) w' from by
  have e:X=⟨(Aq s fs pg).1.s,(Aq s fs pg).1.fs.set (Aq s fs pg).2 {Cp (Aq s fs pg).1.fs (Aq s fs pg).2 with pins:=(Cp (Aq s fs pg).1.fs (Aq s fs pg).2).pins+1},0⟩:=by rw[hX];unfold My;rw[if_pos h0]
  rw[e];exact⟨q,rfl,V,U⟩)
 have o:=Hq (fun(h0:¬ (Aq s fs pg).1.e=0) w' (q:SP) (V:An w' (Aq s fs pg).1.s q (Aq s fs pg).1.fs) (U:Bw w w')=>show Bk X w (.returned (.tuple #[Af (Aq s fs pg).1.s q,.int .i64 (Aq s fs pg).1.e])) w' from by
  have e:X=(Aq s fs pg).1:=by rw[hX];unfold My;rw[if_neg h0]
  rw[e];exact⟨q,rfl,V,U⟩)
 have ah:=hW.nf;clear hX hW h;generalize Bk X w=Q at a o ⊢;generalize Aq s fs pg=r at u a o v;obtain⟨⟨xs,c,xe⟩,G⟩:=r;simp only at u a o v;have x:G<c.length:=by omega
 have hlen:c.length≤100:=by omega
 rw[Br x]at a;have Y:=(v.1.fr G x).pn;clear v ah;obtain⟨f,y⟩:=ex (c[G]);rw[← y]at a Y;have Z:=Hq y;clear y;go_enter Tryz.func105,Tryz.ntmps105;go_upto_region 1 with fail;have I:=Il w (Ai s p) 36 #[(),(),(),'s',(),false,(),(),(),(),"",'s',(),'s',()] 36;obtain⟨W0,a1⟩:=Dr I;rw[← a1]at I ⊢;clear a1
 go_upto_region 2 with(first
  |with_reducible refine lL I.out.Ag Ak ?_
  |(go_at_call 71;refine(u.out _ I.out.below).mono ?_;rintro e T ⟨q,rfl,a6,z⟩)
  |with_reducible refine sN (Ai xs q) ?_)
 have a7:=z.trans ((Ad T (.cells (Ai xs q) 36)).mono z.size);have J:=Hq (I.out.step a7);have k:=Hq (heap_alloc_new T (.cells (Ai xs q) 36));have d:=Hq (a6.below (Ad T (.cells (Ai xs q) 36)));have ai:w.heap.size+1<T.heap.size:=Nat.lt_of_lt_of_le (I.out.lt (i:=1) (by simp)) z.size;obtain⟨g,hg⟩:=ex T.heap.size;obtain⟨L,A⟩:=ex (T.alloc (.cells (Ai xs q) 36));rw[← hg,← A]at k;rw[← A]at J d;rw[← A,← hg];rw[← hg]at ai;clear A hg z a7 I u a6
 try simp only[Act.put]
 by_cases l:xe=0
 ·have aj:(xe != 0)=false:=by rw[l];rfl
  have O:=Hq l;have ax:(0:Int)≤(G:Int):=by omega
  have ay:(G:Int)<(c.length:Int):=by omega
  have ak:IntKind.i64.wrap (f.pins+1)=f.pins+1:=IntWalk.i64_in _ (by omega);obtain⟨b,off,a8,al,an,j⟩:=Bi Cc d.out.fr x;rw[← Z.out]at j;have hc:=show L.cell? ⟨g,11,none⟩=some (.slice (some ⟨b,off,none⟩) c.length q.fc)from(by rw[Aa k.out,← a8,← d.out.fn];rfl);have aa:=Hq (show L.rangeAt b (off+G*5) (F4 f)from j);clear l j al an a8 o
  go_upto_region 5 with(first
   |(refine Bt Kr fun K hK=>wp_load_mid 116 (.tmp 25) rfl b (off+G*5) rfl (F4 f) _ aa.out Cw Kr Kr (hK _ _ ?_))
   |with_reducible refine sN (Cg f) ?_)
  have C:=Ad L (.cells (Cg f) 116);have H6:=Hq (J.out.step C);have P:=Hq (Ac k.out C);have m:=Hq (heap_alloc_new L (.cells (Cg f) 116));have R:=Hq (d.out.below C);have H:g<L.heap.size:=C0 k.out;obtain⟨g2,D⟩:=ex L.heap.size;obtain⟨S,E⟩:=ex (L.alloc (.cells (Cg f) 116));rw[← D,← E]at m;rw[← E]at H6 P R;rw[← E,← D];rw[← D]at H;have ao:=Hq (show ∀ ad,q.F=some ad→ad.block≠g2 from fun ad e=>by
   have:=d.out.ft.lt ad e;omega)
  clear E D C aa J k d hc
  try simp only[Act.put]
  have aq:=show S.cell? ⟨g2,2,none⟩=some (.int .i64 f.pins)from(by rw[Aa m.out];rfl);have ar:=Ao m.out 2;go_upto_region 6 with fail;have ae:=Hq (show(S.setCell ⟨g2,2,none⟩ (.int .i64 (f.pins+1))).heap[g2]? =some (.cells (Cg {f with pins:=f.pins+1}) 116 (0,0))from by have:=Bs 2 m.out (.int .i64 (f.pins+1));simpa using this);have H7:=Hq (H6.out.under (M:=g2) (by simp;omega) ((Below.refl _ S).setCell (p:=⟨g2,2,none⟩) (Nat.le_refl _) (.int .i64 (f.pins+1))));have af:=Hq (show(S.setCell ⟨g2,2,none⟩ (.int .i64 (f.pins+1))).heap[g]? =_ from(((show Below g2 S S from⟨rfl,rfl,rfl,Nat.le_refl _,fun _ _=>rfl⟩).setCell (p:=⟨g2,2,none⟩) (Nat.le_refl _) (.int .i64 (f.pins+1))).block g H).trans P.out);have ag:=Hq (R.out.own m.out ao.out 2 (.int .i64 (f.pins+1)));have au:=Hq (fun W (V:An W xs q c)=>Gx xs q c hlen G x {f with pins:=f.pins+1} W V);generalize S.setCell ⟨g2,2,none⟩ (.int .i64 (f.pins+1))=w7 at ae H7 af ag ⊢;clear aq ar H6 P m R Y ak
  try simp only[Act.put]
  go_wp2_with(first
   |with_reducible refine lL af.out Ak ?_
   |with_reducible refine lL ae.out Cw ?_
   |(go_at_call 146;refine(au.out _ ag.out).mono ?_;rintro e w8 ⟨q8,rfl,av,aw⟩;have H8:=Hq (H7.out.step aw))
   |with_reducible refine lS (Ai xs q8) H8.out.Ah ?_)
  refine rT2 () H8.out.Ah Ak ?_;have y:=Z.out;exact a.out O.out _ q8 (av.other (t:=36) H8.out.Ah (by decide) (by decide) (by decide) _) (H8.out.row 1 (Ai xs q8) _ rfl).below
 ·have aj:(xe != 0)=true:=by rw[bne_iff_ne];exact l
  have O:=Hq l;clear l a
  go_wp2_with(first|with_reducible refine lL k.out Ak ?_|with_reducible refine lS (Ai xs q) J.out.Ah ?_)
  refine rT2 xe J.out.Ah Ak ?_;exact o.out O.out _ q (d.out.other (t:=36) J.out.Ah (by decide) (by decide) (by decide) _) (J.out.row 1 (Ai xs q) _ rfl).below
theorem Y8 {N n B:Nat}(s:Tx.St)(p:SP)(fs:List Fr)(T:Wf N n B s fs)(hB:B≤1000000)(pg:Int)(w:World)(h:An w s p fs):
 Cq 106 #[Af s p,pg] w (Bk (Ff s fs pg) w):=by
 have U:=T.nf;have V:fs.length≤100:=by omega
 have Y:=T.zp;have o:=Hq (fun W=>L5 s p n T.zp pg W);have I:=Hq (fun W (c:Bw w W)=>Mo s p fs (by omega) pg W (h.below c));have x:=Hq (fun k d f W (c:Bw w W)=>Gx s p fs V k d f W (h.below c));have J:=Hq (fun k (d:k<fs.length)=>(T.fr k d).pn);have Z:=Hq h.fn;have HP:=Hq h;obtain⟨X,L⟩:=ex (Ff s fs pg);rw[← L]
 by_cases l:0≤pg∧pg<(n:Int)
 ·rw[decide_eq_true l]at o
  have O:Gh s pg:=⟨l.1,by omega⟩;have P:=Hq (fun(ha:Jl fs pg=none) w' (c:Bw w w')=>show Bk X w (.returned (.tuple #[Af s p,.int .i64 21])) w' from by
   have e:X=⟨s,fs,21⟩:=(by rw[L];unfold Ff;rw[if_neg (fun E=>E O),ha]);rw[e];exact⟨p,rfl,h.below c,c⟩)
  have y:=Hq (fun k (ha:Jl fs pg=some k) (d:k<fs.length) (h0:fs[k].pins≤0) w' (c:Bw w w')=>show Bk X w (.returned (.tuple #[Af s p,.int .i64 21])) w' from by
   have e:X=⟨s,fs,21⟩:=(by rw[L];unfold Ff;rw[if_neg (fun E=>E O),ha];simp only;rw[Br d,if_pos h0]);rw[e];exact⟨p,rfl,h.below c,c⟩)
  have z:=Hq (fun k (ha:Jl fs pg=some k) (d:k<fs.length) (h0:¬ fs[k].pins≤0) w' (q:SP) (hp:An w' s q (fs.set k {fs[k]with pins:=fs[k].pins-1})) (c:Bw w w')=>show Bk X w (.returned (.tuple #[Af s q,()])) w' from by
   have e:X=⟨s,fs.set k {fs[k]with pins:=fs[k].pins-1},0⟩:=(by rw[L];unfold Ff;rw[if_neg (fun E=>E O),ha];simp only;rw[Br d,if_neg h0]);rw[e];exact⟨q,rfl,hp,c⟩)
  clear L T O h U Y l;generalize Bk X w=Q at P y z ⊢;go_enter Tryz.func106,Tryz.ntmps106;go_upto_region 1 with fail;have v:=Il w (Ai s p) 36 #[(),(),(),'s',(),false,(),(),(),(),"",'s',(),'s',()] 36;obtain⟨W0,r⟩:=Dr v;rw[← r]at v ⊢;clear r
  go_upto_region 3 with(first|with_reducible refine lL v.out.Ag Ak ?_|(go_at_call 145;refine(o.out _).mono ?_;rintro e w1 ⟨rfl,A⟩;have H1:=Hq (v.out.step A)))
  go_upto_region 4 with(first|with_reducible refine lL H1.out.Ag Ak ?_|(go_at_call 50;refine(I.out _ H1.out.below).mono ?_;rintro e F ⟨kk,rfl,hq,a1⟩;have m:=Hq (H1.out.step a1)))
  clear A a1 v H1 o I;rcases hq with⟨rfl,hq⟩|⟨k,d,rfl,a6,a7⟩
  ·have ax:(-1:Int)<0:=by decide
   have C:=Hq (Ik hq);clear hq x y z
   go_wp2_with(first|with_reducible refine lL m.out.Ag Ak ?_|with_reducible refine lS (Ai s p) m.out.Ah ?_)
   refine rT2 (.int .i64 21) m.out.Ah Ak ?_;exact P.out C.out _ (m.out.row 1 (Ai s p) _ rfl).below
  ·have ay:(0:Int)≤(k:Int):=by omega
   have az:¬ (k:Int)<0:=(by omega);have b0:(k:Int)<(fs.length:Int):=(by omega);have a8:=Hq (Hc d a6 fun j hj ag=>a7 j ag);have ah:=J.out k d;obtain⟨b,off,aa,ai,aj,a⟩:=Bi Cc (HP.out.fr.below m.out.below) d;have hc:=show F.cell? ⟨w.heap.size,11,none⟩=some (.slice (some ⟨b,off,none⟩) fs.length p.fc)from(by rw[Aa m.out.Ag,← aa,← Z.out];rfl);have G:=Hq (y.out k a8.out d);have H:=Hq (z.out k a8.out d);have ak:=Hq (fun f W c=>x.out k d f W c);obtain⟨f,ad⟩:=ex (fs[k]);rw[← ad]at a ah G H;have al:=Hq (show F.rangeAt b (off+k*5) (F4 f)from a);have an:=show F.cell? ⟨b,off+k*5+2,none⟩=some (.int .i64 f.pins)from a 2 _ rfl;clear a ai aj aa a6 a7 P y z x J ad
   by_cases R:f.pins≤0
   ·have S:=Hq R
    go_wp2_with(first|with_reducible refine lL m.out.Ag Ak ?_|with_reducible refine lS (Ai s p) m.out.Ah ?_)
    refine rT2 (.int .i64 21) m.out.Ah Ak ?_;exact G.out S.out _ (m.out.row 1 (Ai s p) _ rfl).below
   ·have S:=Hq R
    have ao:IntKind.i64.wrap (f.pins-1)=f.pins-1:=IntWalk.i64_in _ (by omega);go_upto_region 6 with fail;clear an
    go_upto_region 7 with(first
     |(refine Bt Kr fun K hK=>wp_load_mid 116 (.tmp 33) rfl b (off+k*5) rfl (F4 f) _ al.out Cw Kr Kr (hK _ _ ?_))
     |with_reducible refine sN (Cg f) ?_)
    have ae:=Ad F (.cells (Cg f) 116);have H5:=Hq (m.out.step ae);have u:=Hq (heap_alloc_new F (.cells (Cg f) 116));have aq:w.heap.size+1<F.heap.size:=m.out.lt (i:=1) (by simp);obtain⟨g,hg⟩:=ex F.heap.size;obtain⟨w5,D⟩:=ex (F.alloc (.cells (Cg f) 116));rw[← hg,← D]at u;rw[← D]at H5;rw[← D,← hg];rw[← hg]at aq;clear D hg ae m hc
    try simp only[Act.put]
    have ar:=show w5.cell? ⟨g,2,none⟩=some (.int .i64 f.pins)from(by rw[Aa u.out];rfl);have au:=Ao u.out 2;go_upto_region 8 with fail;have af:=Hq (show(w5.setCell ⟨g,2,none⟩ (.int .i64 (f.pins-1))).heap[g]? =some (.cells (Cg {f with pins:=f.pins-1}) 116 (0,0))from by have:=Bs 2 u.out (.int .i64 (f.pins-1));simpa using this);have H6:=Hq (H5.out.under (M:=g) (by simp;omega) ((Below.refl _ w5).setCell (p:=⟨g,2,none⟩) (Nat.le_refl _) (.int .i64 (f.pins-1))));generalize w5.setCell ⟨g,2,none⟩ (.int .i64 (f.pins-1))=w6 at af H6 ⊢;clear ar au u H5 ao R
    go_wp2_with(first
     |with_reducible refine lL H6.out.Ag Ak ?_
     |with_reducible refine lL af.out Cw ?_
     |(go_at_call 146;refine(ak.out {f with pins:=f.pins-1} _ H6.out.below).mono ?_;rintro e w7 ⟨q,rfl,av,aw⟩;have H7:=Hq (H6.out.step aw))
     |with_reducible refine lS (Ai s q) H7.out.Ah ?_)
    refine rT2 () H7.out.Ah Ak ?_;exact H.out S.out _ q (av.other (t:=36) H7.out.Ah (by decide) (by decide) (by decide) _) (H7.out.row 1 (Ai s q) _ rfl).below
 ·rw[decide_eq_false l]at o
  have O:¬ Gh s pg:=fun E=>l ⟨E.1,by have:=E.2;omega⟩;have C:=Hq (fun w' (c:Bw w w')=>show Bk X w (.returned (.tuple #[Af s p,.int .i64 1])) w' from by
   have e:X=⟨s,fs,1⟩:=(by rw[L];unfold Ff;rw[if_pos O]);rw[e];exact⟨p,rfl,h.below c,c⟩)
  generalize Bk X w=Q at C ⊢;clear h L T O l U Y V I x J Z HP;go_enter Tryz.func106,Tryz.ntmps106;go_upto_region 1 with fail;have v:=Il w (Ai s p) 36 #[(),(),(),'s',(),false,(),(),(),(),"",'s',(),'s',()] 36;obtain⟨W0,r⟩:=Dr v;rw[← r]at v ⊢;clear r
  go_upto_region 2 with(first|with_reducible refine lL v.out.Ag Ak ?_|(go_at_call 145;refine(o.out _).mono ?_;rintro e w1 ⟨rfl,A⟩;have H1:=Hq (v.out.step A)))
  go_wp2_with(first|with_reducible refine lL H1.out.Ag Ak ?_|with_reducible refine lS (Ai s p) H1.out.Ah ?_)
  refine rT2 (.int .i64 1) H1.out.Ah Ak ?_;exact C.out _ (H1.out.row 1 (Ai s p) _ rfl).below
end Go.Proofs.YtmldoihahndcgaaGreatDoor
