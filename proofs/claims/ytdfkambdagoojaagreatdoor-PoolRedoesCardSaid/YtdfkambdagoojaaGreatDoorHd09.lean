import Derived.Test.YtdfkambdagoojaaGreatDoorHd00
import Derived.Test.YtdfkambdagoojaaGreatDoorHd07
import Derived.Test.YtdfkambdagoojaaGreatDoorHd08
import Derived.Test.YtdfkambdagoojaaGreatDoorHd01
import Derived.Test.YtdfkambdagoojaaGreatDoorHd06
import Derived.Test.YtdfkambdagoojaaGreatDoorHd02
set_option maxRecDepth 100000
set_option maxHeartbeats 16000000
set_option linter.unusedSimpArgs false
namespace Go.Proofs.YtdfkambdagoojaaGreatDoor
open Go.RowKit Sc
theorem sG {α:Type}{enc:α→List Value}{k:Nat}{e:TypeId}{B g c:Nat}{w:World}{l:List α}(b:∀ x,(enc x).length=k)(q:Ep enc k e B w (.slice (some ⟨g,0,none⟩) l.length c) l)(i:Nat)(hi:i<l.length)(x:α)(j:Nat)(C:j<k)(v:Value)(s:∀ t,t<k→(enc x)[t]? =if t=j then some v else(enc l[i])[t]?):
 w.frozen? ⟨g,i*k+j,none⟩=false∧Ep enc k e B (w.setCell ⟨g,i*k+j,none⟩ v) (.slice (some ⟨g,0,none⟩) (l.set i x).length c) (l.set i x)∧Below B w (w.setCell ⟨g,i*k+j,none⟩ v):=by
 obtain⟨cur,d,D,f,m,u,y,n⟩:=Ql q;have z:i*k+k≤l.length*k:=by have:=Nat.mul_le_mul_right k (show i+1≤l.length from hi);rwa[Nat.add_mul,Nat.one_mul]at this
 have A:l.length*k≤c*k:=Nat.mul_le_mul_right _ m;refine⟨Aj f _,gH b d (Cb (i*k+j) f v) (by rw[List.length_set];exact m) u (by rw[Array.size_setIfInBounds];exact y) (fun t h=>?_),(show Below B w w from⟨rfl,rfl,rfl,Nat.le_refl _,fun _ _=>rfl⟩).setCell (p:=⟨g,i*k+j,none⟩) d v⟩;rw[List.length_set]at h;rw[cO b l i hi x t,Array.getElem?_setIfInBounds]
 by_cases a:i*k≤t∧t<i*k+k
 ·rw[if_pos a]
  obtain⟨r,rfl⟩:∃ r,t=i*k+r:=⟨t-i*k,by omega⟩;rw[Nat.add_sub_cancel_left,s r (by omega)]
  by_cases o:r=j
  ·subst o;rw[if_pos rfl,if_pos (by omega),if_pos rfl]
  ·rw[if_neg (by omega),if_neg o,n _ h,Ju b l i r hi (by omega)]
 ·rw[if_neg a,if_neg (by omega),n t h]
def Xl (s:Tx.St)(n:Nat)(o:Option (Nat×List Fr))(w:World)(e:Ending)(w':World):Prop:=
 (∃ (k:Nat) (fs':List Fr) (q:SP) (x:Int),o=some (k,fs')∧x=(((k+1)%n:Nat):Int)∧e= .returned (.tuple #[Ar {s with hand:=x} q,.int .i64 (k:Int)])∧Ba w' {s with hand:=x} q fs'∧Bw w w')∨
 (o=none∧∃ q:SP,e= .returned (.tuple #[Ar s q,.int .i64 (-1)])∧Bw w w')
theorem vU {n j a:Nat}{fs:List Fr}(b:a<fs.length)(h:0<fs[a].pins):Mg n (j+1) a fs=Mg n j ((a+1)%n) fs:=by
 show(if 0<(Cz fs a).pins then _ else _)=_
 rw[Bh b,if_pos h]
theorem sH {n j a:Nat}{fs:List Fr}(b:a<fs.length)(h:¬ 0<fs[a].pins)(c:fs[a].mark=true):Mg n (j+1) a fs=Mg n j ((a+1)%n) (fs.set a {fs[a]with mark:=false}):=by
 show(if 0<(Cz fs a).pins then _ else if(Cz fs a).mark=true then _ else _)=_
 rw[Bh b,if_neg h,if_pos c]
theorem vV {n j a:Nat}{fs:List Fr}(b:a<fs.length)(h:¬ 0<fs[a].pins)(c:fs[a].mark=false):Mg n (j+1) a fs=some (a,fs):=by
 show(if 0<(Cz fs a).pins then _ else if(Cz fs a).mark=true then _ else _)=_
 rw[Bh b,if_neg h,if_neg (by rw[c];decide)]
theorem Zd (s:Tx.St)(p:SP)(fs:List Fr)(bn:1≤fs.length∧fs.length≤64)(a1:0≤s.hand∧s.hand≤64)(ak:∀ i (hi:i<fs.length),0≤fs[i].pins∧fs[i].pins≤1000000)(w:World)(h:Ba w s p fs):
 Cq 166 #[Ar s p] w (Xl s fs.length (Mg fs.length (2*fs.length) (s.hand.toNat%fs.length) fs) w):=by
 have HP:=Hq h;have an:=Hq h.fn;have ao:=Hq (fun W (hb:Bw w W)=>Vc fs (by omega) p.F p.fc W (h.fr.below hb));obtain⟨V,hV⟩:=ex (Mg fs.length (2*fs.length) (s.hand.toNat%fs.length) fs);rw[← hV];have aq:=Hq (fun(k:Nat) (fs':List Fr) (q:SP) w' (hv:V=some (k,fs')) (hp:Ba w' {s with hand:=(((k+1)%fs.length:Nat):Int)} q fs') (hb:Bw w w')=>show Xl s fs.length V w (.returned (.tuple #[Ar {s with hand:=(((k+1)%fs.length:Nat):Int)} q,.int .i64 (k:Int)])) w' from .inl ⟨k,fs',q,_,hv,rfl,rfl,hp,hb⟩);have ar:=Hq (fun(q:SP) w' (hv:V=none) (hb:Bw w w')=>show Xl s fs.length V w (.returned (.tuple #[Ar s q,.int .i64 (-1)])) w' from .inr ⟨hv,q,rfl,hb⟩);have HV:=Hq hV.symm;clear hV;generalize Xl s fs.length V w=Q at aq ar ⊢;have au:=Hq ak;clear h ak;have bo:((fs.length:Int)==0)=false:=beq_eq_false_iff_ne.2 (by omega);have b6:(fs.length:Int)≠0:=by omega
 have b7:(0:Int)<(fs.length:Int):=by omega
 obtain⟨m,hm⟩:=ex (Int.tmod s.hand (fs.length:Int));have bp:0≤m∧m<(fs.length:Int):=by rw[hm];exact⟨Int.tmod_nonneg _ a1.1,Int.tmod_lt_of_pos _ b7⟩
 have bq:Int.tmod s.hand (fs.length:Int)=m:=hm.symm;have br:IntKind.i64.wrap m=m:=IntWalk.i64_in _ (by omega);have bs:IntKind.i64.wrap (m+(fs.length:Int))=m+(fs.length:Int):=IntWalk.i64_in _ (by omega);obtain⟨a,ha⟩:=ex (s.hand.toNat%fs.length:Nat);have b8:a<fs.length:=by rw[ha];exact Nat.mod_lt _ (by omega)
 have bt:(a:Int)<(fs.length:Int):=by omega
 have bu:Int.tmod (m+(fs.length:Int)) (fs.length:Int)=(a:Int):=by
  rw[hm,Int.tmod_eq_emod_of_nonneg a1.1,Int.tmod_eq_emod_of_nonneg (by have:=Int.emod_nonneg s.hand b6;omega),Int.add_emod_right,Int.emod_emod_of_dvd _ (Int.dvd_refl _),ha,Int.natCast_emod,Int.toNat_of_nonneg a1.1]
 have bw:IntKind.i64.wrap (a:Int)=(a:Int):=IntWalk.i64_in _ (by omega);have bx:IntKind.i64.wrap (2*(fs.length:Int))=2*(fs.length:Int):=IntWalk.i64_in _ (by omega);have a6:=HV;rw[← ha]at a6;clear hm ha HV;go_enter Tryz.func166,Tryz.ntmps166;go_upto_region 1 with fail;have U:=O2 w (Au s p) 36 #[(),(),(),'s',(),false,(),(),(),(),"",'s',(),'s',()] 36;obtain⟨W0,av⟩:=Gz U;rw[← av]at U ⊢;clear av;have hc:=show W0.cell? ⟨w.heap.size,11,none⟩=some (.slice p.F fs.length p.fc)from by rw[Aa U.out.Am,← an.out];rfl
 go_upto_region 3 with(go_at_call 126;refine(ao.out _ U.out.below).mono ?_;rintro e w1 ⟨v,rfl,ho,A⟩;obtain⟨g,c2,rfl,b9⟩:=Za ho (by omega);have H1:=Hq (U.out.step A);have H:=show w1.cell? ⟨w.heap.size,11,none⟩=some (.slice p.F fs.length p.fc)from(by rw[Aa H1.out.Am,← an.out];rfl);have I:=Aj H1.out.Am 11)
 have a7:w.heap.size<W0.heap.size:=by have:=U.out.lt (i:=0) (by simp);omega
 have hM:w.heap.size+2≤W0.heap.size:=U.out.lt (i:=1) (by simp);have H2:=Hq (show Fc w.heap.size w [((Au s {p with F:=some ⟨g,0,none⟩,fn:=fs.length,fc:=c2}),36),(#[(),(),(),'s',(),false,(),(),(),(),"",'s',(),'s',()],36)] (w1.setCell ⟨w.heap.size,11,none⟩ (.slice (some ⟨g,0,none⟩) fs.length c2))from by have h:=H1.out.set 0 11 (.slice (some ⟨g,0,none⟩) fs.length c2) _ rfl;simpa using h);have O:=Hq (Lq ho ⟨w.heap.size,11,none⟩ (.slice (some ⟨g,0,none⟩) fs.length c2) a7);generalize w1.setCell ⟨w.heap.size,11,none⟩ (.slice (some ⟨g,0,none⟩) fs.length c2)=w2 at H2 O ⊢;have bz:=show w2.cell? ⟨w.heap.size,12,none⟩=some (.int .i64 s.hand)from by rw[Aa H2.out.Am];rfl
 clear hc H I H1 U ao ho A;generalize W0.heap.size=B at O b9 a7 hM
 try simp only[Act.put]
 go_wp2_with fail
 go_loopw [34,5] (fun i x wr=>∃ (j a':Nat) (fs':List Fr),j≤2*fs.length∧i= .int .i64 (j:Int)∧x= .int .i64 (a':Int)∧a'<fs.length∧fs'.length=fs.length∧(∀ t (ht:t<fs'.length),0≤fs'[t].pins∧fs'[t].pins≤1000000)∧Mg fs.length (2*fs.length-j) a' fs'=V∧Fc w.heap.size w [((Au s {p with F:=some ⟨g,0,none⟩,fn:=fs.length,fc:=c2}),36),(#[(),(),(),'s',(),false,(),(),(),(),"",'s',(),'s',()],36)] wr∧wr.ownsRow B 95 5 (.slice (some ⟨g,0,none⟩) fs.length c2) fs.length (fs'.flatMap Me)) (fun i _ _=>2*fs.length-(intOf i).toNat)
 case atStart=>exact⟨0,a,fs,Nat.zero_le _,rfl,rfl,b8,rfl,au.out,by rw[Nat.sub_zero];exact a6.out,H2.out,O.out⟩
 case round=>
  clear au a6 H2 O;obtain⟨k,q,fs',hk,rfl,rfl,c6,C,l,c,P,a8⟩:=hrel;have c7:(0:Int)≤(k:Int):=by omega
  by_cases X:k<2*fs.length
  ·obtain⟨j2,aw⟩:∃ j2,2*fs.length-k=j2+1:=⟨2*fs.length-k-1,by omega⟩
   have ax:2*fs.length-(k+1)=j2:=(by omega);rw[aw]at c;have ba:(k:Int)<2*(fs.length:Int):=(by omega);have c8:IntKind.i64.wrap ((k:Int)+1)=(k:Int)+1:=IntWalk.i64_in _ (by omega);have Y:q<fs'.length:=(by omega);have aa:Ep Me 5 95 B wr (.slice (some ⟨g,0,none⟩) fs'.length c2) fs':=(by unfold Ep;rw[C];exact a8);have o:=Hq P;have HO:=Hq aa;have ay:=Hq l;have z:=l q Y;have ad:(q+1)%fs.length<fs.length:=Nat.mod_lt _ (by omega);have bb:Int.tmod ((q:Int)+1) (fs.length:Int)=(((q+1)%fs.length:Nat):Int):=Int.tmod_eq_emod_of_nonneg (by omega);have D:=Hq (fun(h:0<fs'[q].pins)=>(vU (n:=fs.length) (j:=j2) Y h).symm.trans c);have E:=Hq (fun(h:¬ 0<fs'[q].pins) (h2:fs'[q].mark=true)=>(sH (n:=fs.length) (j:=j2) Y h h2).symm.trans c);have J:=Hq (fun(h:¬ 0<fs'[q].pins) (h2:fs'[q].mark=false)=>c.symm.trans (vV (n:=fs.length) (j:=j2) Y h h2));obtain⟨r,ae⟩:=ex ((q+1)%fs.length);rw[← ae]at bb ad D E;have bc:=Hq ae;clear ae c;obtain⟨b,off,u,bd,bf,d⟩:=Cv E3 (Ex aa) Y
   injection u with u
   injection u with A af _
   subst A af;rw[Nat.zero_add]at d;have ag:=Hq (show wr.rangeAt g (q*5) (Me fs'[q])from d);obtain⟨f,ah⟩:=ex (fs'[q]);rw[← ah]at ag z D E J;have az:=Hq ah;have HL:=Hq C;have bm:(0:Int)≤(q:Int):=(by omega);have ca:(q:Int)<(fs.length:Int):=(by omega);have cb:IntKind.i64.wrap ((q:Int)+1)=(q:Int)+1:=IntWalk.i64_in _ (by omega);have cc:IntKind.i64.wrap (r:Int)=(r:Int):=IntWalk.i64_in _ (by omega);have cd:=Hq (show(0:Int)≤(r:Int)∧(r:Int)≤64 from by omega);have HJ:=Hq ax;clear P a8 aa d bd ah C bf l aw ax X
   go_upto_region 9 with(first
    |(refine Dr Kr fun K hK=>wp_load_mid 95 (.tmp 38) rfl g (q*5) rfl (Me f) _ ag.out J5 Kr Kr (hK _ _ ?_))
    |with_reducible refine sN (Gc f) ?_)
   have H5:=Hq (o.out.step (Ag wr (.cells (Gc f) 95)));have R:=Hq (heap_alloc_new wr (.cells (Gc f) 95));have L:=Hq (Ce HO.out (Ag wr (.cells (Gc f) 95)));obtain⟨g6,hg⟩:=ex wr.heap.size;obtain⟨Z,S⟩:=ex (wr.alloc (.cells (Gc f) 95));rw[← hg,← S]at R;rw[← S]at H5 L;rw[← S,← hg];clear S hg o ag HO
   try simp only[Act.put]
   have b0:=show Z.cell? ⟨g6,2,none⟩=some (.int .i64 f.pins)from by rw[Aa R.out];rfl
   by_cases G:0<f.pins
   ·have bg:¬ f.pins≤0:=by omega
    have bh:=Hq (D.out G);clear G z D E J;go_wp2_with fail;go_roundw
    case rel=>
     have h6:=L.out;have C:=HL.out;unfold Ep at h6;rw[C]at h6;exact⟨k+1,r,fs',by omega,by go_num,rfl,ad,C,ay.out,by rw[HJ.out];exact bh.out,H5.out,h6⟩
    case measure=>simp[intOf];omega
   ·have bg:f.pins≤0:=by omega
    cases y:f.mark with
    |false=>
     have ai:=show Z.cell? ⟨g6,3,none⟩=some (.bool false)from(by rw[Aa R.out,← y];rfl);have H:=show Z.cell? ⟨w.heap.size,12,none⟩=some (.int .i64 s.hand)from(by rw[Aa H5.out.Am];rfl);have I:=Aj H5.out.Am 12;have bj:=Hq (J.out G y);clear y z G D E J;go_upto_region 12 with fail;have H6:=Hq (show Fc w.heap.size w [((Au {s with hand:=((r:Nat):Int)} {p with F:=some ⟨g,0,none⟩,fn:=fs.length,fc:=c2}),36),(#[(),(),(),'s',(),false,(),(),(),(),"",'s',(),'s',()],36)] (Z.setCell ⟨w.heap.size,12,none⟩ (.int .i64 (r:Int)))from by have h:=H5.out.set 0 12 (.int .i64 (r:Int)) _ rfl;simpa using h);have N:=Hq (Lq L.out ⟨w.heap.size,12,none⟩ (.int .i64 (r:Int)) a7);generalize Z.setCell ⟨w.heap.size,12,none⟩ (.int .i64 (r:Int))=w6 at H6 N ⊢;clear b0 ai H I
     go_wp2_with(first|with_reducible refine lL H6.out.Am Az ?_|(with_reducible refine lS (Au {s with hand:=((r:Nat):Int)} {p with F:=some ⟨g,0,none⟩,fn:=fs.length,fc:=c2}) H6.out.As ?_))
     refine rT2 (.int .i64 (q:Int)) H6.out.As Az ?_;have HB:=(H6.out.row 1 (Au {s with hand:=((r:Nat):Int)} {p with F:=some ⟨g,0,none⟩,fn:=fs.length,fc:=c2}) _ rfl).below;have T:=HP.out.below HB;have aj:=N6 N.out (w.heap.size+1) (Au {s with hand:=((r:Nat):Int)} {p with F:=some ⟨g,0,none⟩,fn:=fs.length,fc:=c2}) (by omega);have C:=HL.out;have b1:=aq.out q fs' {p with F:=some ⟨g,0,none⟩,fn:=fs.length,fc:=c2} (w6.setRow (w.heap.size+1) (Au {s with hand:=((r:Nat):Int)} {p with F:=some ⟨g,0,none⟩,fn:=fs.length,fc:=c2})) bj.out;rw[← bc.out]at b1;refine b1 ⟨⟨T.st.dk,T.st.dt,T.st.tx,T.st.tt⟩,C.symm,?_,(Df.own aj).mono (Nat.zero_le _)⟩ HB;rw[C];rw[C]at aj;exact Ex aj
    |true=>
     have ai:=show Z.cell? ⟨g6,3,none⟩=some (.bool true)from(by rw[Aa R.out,← y];rfl);obtain⟨I,b2,b3⟩:=sG E3 L.out q Y {fs'[q]with mark:=false} 3 (by decide) (.bool false) (by
      intro t ht;have:t=0∨t=1∨t=2∨t=3∨t=4:=(by omega);rcases this with rfl|rfl|rfl|rfl|rfl<;>rfl)
     have H:Z.cell? ⟨g,q*5+3,none⟩=some (.bool true):=by
      obtain⟨b,off,u,_,_,d⟩:=Cv E3 (Ex L.out) Y
      injection u with u
      injection u with A af _
      subst A af;have h3:=d 3 (.bool true) (by rw[← az.out,← y];rfl);rw[Nat.zero_add]at h3;exact h3
     have bk:=Hq (E.out G y);clear y z G D E J;go_upto_region 15 with fail;have H6:=Hq (H5.out.under (M:=B) (by simp;omega) b3);have N:=Hq b2;generalize Z.setCell ⟨g,q*5+3,none⟩ (.bool false)=w6 at H6 N ⊢;clear b0 ai H I b2 b3
     try simp only[Act.put]
     go_wp2_with fail;go_roundw
     case rel=>
      have h6:=N.out;have hv:=bk.out;have b4:=ay.out;have C:=HL.out;rw[az.out]at hv;generalize hF:fs'.set q {fs'[q]with mark:=false}=F2 at hv h6;have b5:F2.length=fs.length:=(by rw[← hF,List.length_set];exact C);unfold Ep at h6;rw[b5]at h6;refine⟨k+1,r,F2,by omega,by go_num,rfl,ad,b5,fun t ht=>?_,by rw[HJ.out];exact hv,H6.out,h6⟩;subst hF;rcases Ku fs' q {fs'[q]with mark:=false} t ht with⟨_,e⟩|⟨_,h9,e⟩
      ·rw[e];exact b4 q Y
      ·rw[e];exact b4 t h9
     case measure=>simp[intOf];omega
  ·obtain rfl:k=2*fs.length:=by omega
   have o:=Hq P;rw[Nat.sub_self]at c;have bl:=Hq (show V=none from c.symm);have ba:¬ (((2*fs.length:Nat):Int)<2*(fs.length:Int)):=(by omega);clear P a8 l c X C
   go_wp2_with(first|with_reducible refine lL o.out.Am Az ?_|with_reducible refine lS (Au s {p with F:=some ⟨g,0,none⟩,fn:=fs.length,fc:=c2}) o.out.As ?_)
   refine rT2 (.int .i64 (-1)) o.out.As Az ?_;exact ar.out {p with F:=some ⟨g,0,none⟩,fn:=fs.length,fc:=c2} _ bl.out (o.out.row 1 (Au s {p with F:=some ⟨g,0,none⟩,fn:=fs.length,fc:=c2}) _ rfl).below
def sI (x:Lg.Dk×Int)(w:World)(e:Ending)(w':World):Prop:=∃ (A:Option Addr) (c:Nat),e= .returned (.tuple #[Dj x.1 A c,x.2])∧Dv w' x.1 A c∧Df 0 w' 9 A∧Bw w w'
theorem cS {M:Nat}(d:Lg.Dk)(hd:Pm M d)(A:Option Addr)(c:Nat)(a:Nat)(b5:a+4≤M)(hM:M≤100000)(b:ByteArray)(hb:b.size=512)(w:World)(h:Dv w d A c)(hT:Df 0 w 9 A):
 Cq 129 #[Dj d A c,.int .i64 (a:Int),b] w (sI (F5 d a b 4) w):=by
 have hlen:=hd.len;have R:=Hq (fun W=>cR d A c a (by omega) h.small W);have ak:=Hq (fun(k:Nat) (B:Option Addr) (cc:Nat) W (hr:Dv W (F5 d a b k).1 B cc)=>show Cq 186 #[Dj (F5 d a b k).1 B cc,.int .i64 ((a:Int)+(k:Int)),.string (F8 b k)] W (Ie (Lg.Cf (F5 d a b k).1 ((a:Int)+(k:Int)) (F8 b k)) B W)from Uz (F5 d a b k).1 (hd.F5 a b k).lb B cc ((a:Int)+(k:Int)) (F8 b k) W hr);have b6:=Hq (fun(k:Nat)=>vP (b:=b) k);have HR:=Hq (show Dv w (F5 d a b 0).1 A c from h);have HT:=Hq hT;dsimp only[Dj]at R;have F:=ak;dsimp only[Dj]at F;have T:=Hq (fun(k:Nat) (hk:k<4) (h0:(F5 d a b k).2=0)=>show F5 d a b (k+1)=Lg.Cf (F5 d a b k).1 ((a:Int)+(k:Int)) (F8 b k)from He h0);have U:=Hq (fun(k:Nat) (hk:k≤4) (h0:¬ (F5 d a b k).2=0)=>show F5 d a b 4=F5 d a b k from by have:=I5 h0 (4-k);rwa[show k+(4-k)=4 by omega]at this);have V:=Hq (fun k=>(hd.F5 a b k).len);have X:=Hq (fun(b7:d.down=true)=>show F5 d a b 4=(d,20)from by
  have e1:F5 d a b 1=(d,20):=by
   rw[He (k:=0) rfl]
   show Lg.Cf d _ _=_
   unfold Lg.Cf;rw[if_pos b7]
  have h1:=I5 (d:=d) (a:=a) (b:=b) (k:=1) (by rw[e1];exact(by decide:¬ (20:Int)=0)) 3;rw[h1];exact e1)
 have ba:a≤100000:=by omega
 show Cq 129 #[.agg #[.slice A (F5 d a b 0).1.Ad.length c,.int .i64 (F5 d a b 0).1.left,.bool (F5 d a b 0).1.down],.int .i64 (a:Int),b] w _
 have Y:=Hq (fun W=>show Cr 187 #[.agg #[.slice A (F5 d a b 0).1.Ad.length c,.int .i64 (F5 d a b 0).1.left,.bool (F5 d a b 0).1.down],.int .i64 (a:Int)] W (.bool true) from R.out W);have Z:=Hq (show(F5 d a b 0).2=0 from rfl);have G:=Hq (show(F5 d a b 0).1=d from rfl);clear R ak h hT hd b5 hlen;generalize hD:F5 d a b=D at HR F Y T U V Z X G ⊢;clear hD;have HQ:=Hq (fun(l:Option Addr) (c2:Nat) (w':World) (h1:Dv w' (D 4).1 l c2) (h2:Df 0 w' 9 l) (h3:Bw w w')=>show sI (D 4) w (.returned (.tuple #[Dj (D 4).1 l c2,.int .i64 (D 4).2])) w' from⟨l,c2,rfl,h1,h2,h3⟩);generalize sI (D 4) w=Q at HQ ⊢;go_enter Tryz.func129,Tryz.ntmps129;go_upto_region 1 with fail;have p:=O2 w #[.slice A (D 0).1.Ad.length c,.int .i64 (D 0).1.left,.bool (D 0).1.down] 28 #['s',(),false] 28;obtain⟨W0,an⟩:=Gz p;rw[← an]at p ⊢;clear an;have N:(D 0).1.down=true∨(D 0).1.down=false:=by cases (D 0).1.down<;>simp
 rcases N with N|N
 ·have hc:=show W0.cell? ⟨w.heap.size,2,none⟩=some (.bool true)from by rw[Aa p.out.Am,← N];rfl
  have h4:=X.out (by rw[← G.out];exact N);have HZ:=Hq h4;clear N h4
  go_wp2_with(first|with_reducible refine lL p.out.Am Ej ?_|with_reducible refine lS #[.slice A (D 0).1.Ad.length c,.int .i64 (D 0).1.left,.bool (D 0).1.down] p.out.As ?_)
  refine rT2 (.int .i64 20) p.out.As Ej ?_;have O:=HQ.out A c (W0.setRow (w.heap.size+1) #[.slice A (D 0).1.Ad.length c,.int .i64 (D 0).1.left,.bool (D 0).1.down]);rw[HZ.out,← G.out]at O;exact O ⟨(HT.out.below p.out.below).Gf (HR.out.below p.out.below).secs p.out.As (by decide) _,(HR.out.below p.out.below).small⟩ ((HT.out.below p.out.below).row _ _) (p.out.row 1 #[.slice A (D 0).1.Ad.length c,.int .i64 (D 0).1.left,.bool (D 0).1.down] _ rfl).below
 ·have hc:=show W0.cell? ⟨w.heap.size,2,none⟩=some (.bool false)from by rw[Aa p.out.Am,← N];rfl
  have b8:((b.size:Int) != 512)=false:=by rw[hb];rfl
  clear N X
  go_upto_region 5 with(first|with_reducible refine lL p.out.Am Ej ?_|(go_at_call 187;(with_reducible refine(Y.out _).mono ?_);rintro e w1 ⟨rfl,ao⟩))
  have H1:=Hq (p.out.step ao);have aq:=Hq (HR.out.below H1.out.below);have ar:=Hq (HT.out.below H1.out.below);clear hc b8 Y p ao;go_wp2_with fail
  go_loopw [26] (fun i wr=>∃ (k:Nat) (l:Option Addr) (c2:Nat),k≤4∧i= .int .i64 (k:Int)∧(D k).2=0∧Fc w.heap.size w [(#[.slice l (D k).1.Ad.length c2,.int .i64 (D k).1.left,.bool (D k).1.down],28),(#['s',(),false],28)] wr∧Dv wr (D k).1 l c2∧Df 0 wr 9 l) (fun i _=>4-(intOf i).toNat)
  case atStart=>exact⟨0,A,c,by omega,rfl,Z.out,H1.out,aq.out,ar.out⟩
  case round=>
   clear aq ar H1 HR HT Z G;obtain⟨k,l,c2,hk,rfl,au,av,aw,ax⟩:=hrel;have q:=Hq av;have a1:=Hq aw;have H:=Hq ax;have ay:=Hq au;clear av aw ax au;have bb:(0:Int)≤(k:Int):=by omega
   by_cases a6:k<4
   ·have bc:(k:Int)<4:=by omega
    have bd:IntKind.i64.wrap ((k:Int)+1)=(k:Int)+1:=IntWalk.i64_in _ (by omega);have bf:IntKind.i64.wrap ((a:Int)+(k:Int))=(a:Int)+(k:Int):=IntWalk.i64_in _ (by omega);have bg:IntKind.i64.wrap ((k:Int)*128)=(k:Int)*128:=IntWalk.i64_in _ (by omega);have bh:IntKind.i64.wrap (((k:Int)+1)*128)=((k:Int)+1)*128:=IntWalk.i64_in _ (by omega);have bj:(0:Int)≤(k:Int)*128:=(by omega);have a7:(k:Int)*128≤((k:Int)+1)*128:=(by omega);have bk:((k:Int)+1)*128≤(b.size:Int):=(by omega);have bl:(0:Int)≤((k:Int)+1)*128:=(by omega);have bm:(k:Int)≤(k:Int)+1:=(by omega);have bn:((k:Int)+1)*128≤512:=(by omega);have bo:((k:Int)*128).toNat=k*128:=(by omega);have bp:(((k:Int)+1)*128).toNat=(k+1)*128:=(by omega);have hex:=b6.out k;have bq:(b.size:Int)=512:=(by omega);have m:=Hq (show ∀ W,Bw wr W→Cq 186 #[.agg #[.slice l (D k).1.Ad.length c2,.int .i64 (D k).1.left,.bool (D k).1.down],.int .i64 ((a:Int)+(k:Int)),.string (F8 b k)] W (Ie (Lg.Cf (D k).1 ((a:Int)+(k:Int)) (F8 b k)) l W)from fun W hb=>F.out k l c2 W (a1.out.below hb));have a8:=Hq (T.out k a6 ay.out);have s:=Hq (U.out (k+1) a6);have aa:=Hq (V.out (k+1));rw[a8.out]at s aa;clear F V T U;generalize Lg.Cf (D k).1 ((a:Int)+(k:Int)) (F8 b k)=x at m a8 s aa;obtain⟨d3,e3⟩:=x;simp only at m s aa;clear a6;go_upto_region 8 with fail
    go_cut [9,10] (fun x y wc=>∃ (gt:Nat) (A3:Option Addr) (c3:Nat),x= .pointer (some ⟨gt,0,none⟩)∧y= .int .i64 e3∧wc.heap[gt]? =some (.cells #[.slice A3 d3.Ad.length c3,d3.left,d3.down] 28 (0,0))∧Dv wc d3 A3 c3∧Df 0 wc 9 A3∧Bw wr wc)
    case first=>
     have Z0:Bw wr wr.drew:=(Below.refl _ wr).drew;refine Hw (S:=(fun u=>Bw wr u)) (fun f=>?_);refine yA 0 (some 30) (v:=.agg #[.slice l (D k).1.Ad.length c2,.int .i64 (D k).1.left,.bool (D k).1.down]) rfl (yieldsIf_load_mid (by rfl) 28 (.tmp 3) rfl w.heap.size 0 (by rfl) #[.slice l (D k).1.Ad.length c2,.int .i64 (D k).1.left,.bool (D k).1.down].toList _ (fun u hu=>(by intro j v hj;rw[Nat.zero_add,Aa (Ae q.out.Am hu)];simpa using hj)) Ej Kr Kr) ?_
     try simp only[Act.put,pS]
     refine Be 1 ?_;refine Be 2 ?_;refine Be 3 ?_;refine Be 4 ?_;refine Be 5 ?_;refine Be 6 ?_;refine Be 7 ?_;refine Be 8 ?_;refine Be 9 ?_;refine Be 10 ?_;refine wpAnyH_ready (rs:=[11,15]) Kr (by simp) ?_;refine(AllReadyH.cons (o:={dst:=some 41,op:=_,type:=_,pos:=_,after:=_,guard:=_}) rfl (fun K n=>?_) (AllReadyH.cons (o:={dst:=some 9,op:=_,type:=_,pos:=_,after:=_,guard:=_}) rfl (fun K n=>?_) AllReadyH.nil))
     ·
      go_simp
      refine(m.out _ Z0).mono ?_;rintro e I ⟨A3,c3,rfl,J,ad,t⟩;have L:Df 0 I 9 A3:=ad.elim (fun e=>by rw[e];exact H.out.below (Af Z0 t)) (fun e=>e.mono (Nat.zero_le _));have Z2:=Af Z0 t;try clear hSn
      have hSn:=Z2;refine Db n (fun f=>?_);clear n K;refine Be 12 ?_;refine Be 13 ?_;refine Be 14 ?_;refine D3 15 fun K n=>?_
      go_simp
      have HG:=heap_alloc_new I (.cells #['s',(),false] 28);have Z3:=Af Z2 (Ag I (.cells #['s',(),false] 28));have az:=J.below (Ag I (.cells #['s',(),false] 28));have b0:=L.below (Ag I (.cells #['s',(),false] 28));clear hSn;have hSn:=Z3;refine Db n (fun f=>?_);clear n K;refine D3 16 fun K n=>?_;refine Cp (by rfl) ?_;refine sW #[.slice A3 d3.Ad.length c3,d3.left,d3.down] HG ?_;have Z4:=Mf (g:=I.heap.size) (by have:=Z2.size;omega) Z3 #[.slice A3 d3.Ad.length c3,d3.left,d3.down];have ae:=setRow_heap _ _ _ #[.slice A3 d3.Ad.length c3,d3.left,d3.down] _ _ HG;have af:Dv _ d3 A3 c3:=⟨b0.Gf az.secs HG (by decide) #[.slice A3 d3.Ad.length c3,d3.left,d3.down],az.small⟩;have ag:=b0.row I.heap.size #[.slice A3 d3.Ad.length c3,d3.left,d3.down];clear hSn;have hSn:=Z4;refine Db n (fun f=>?_);clear n K;refine Be 17 ?_;refine wpAnyH_done Kr ?_ _;clear f hSn;go_wp2_with fail;go_meet
      case rel=>exact⟨_,A3,c3,rfl,rfl,ae,af,ag,Z4⟩
     ·
      go_simp
      have Z1:=Af Z0 (Ag wr.drew (.cells #['s',(),false] 28));have hSn:=Z1;refine Db n (fun f=>?_);clear n K;refine D3 11 fun K n=>?_
      go_simp
      refine(m.out _ Z1).mono ?_;rintro e I ⟨A3,c3,rfl,J,ad,t⟩;have L:Df 0 I 9 A3:=ad.elim (fun e=>by rw[e];exact H.out.below (Af Z1 t)) (fun e=>e.mono (Nat.zero_le _));have Z2:=Af Z1 t;try clear hSn
      have hSn:=Z2;have HG:=Cn t;refine Db n (fun f=>?_);clear n K;refine Be 12 ?_;refine Be 13 ?_;refine Be 14 ?_;refine D3 16 fun K n=>?_;refine Cp (by rfl) ?_;refine sW #[.slice A3 d3.Ad.length c3,d3.left,d3.down] HG ?_;have Z4:=Mf (g:=wr.drew.heap.size) (by show wr.heap.size≤wr.heap.size;omega) Z2 #[.slice A3 d3.Ad.length c3,d3.left,d3.down];have ae:=setRow_heap _ _ _ #[.slice A3 d3.Ad.length c3,d3.left,d3.down] _ _ HG;have af:Dv _ d3 A3 c3:=⟨L.Gf J.secs HG (by decide) #[.slice A3 d3.Ad.length c3,d3.left,d3.down],J.small⟩;have ag:=L.row wr.drew.heap.size #[.slice A3 d3.Ad.length c3,d3.left,d3.down];clear hSn;have hSn:=Z4;refine Db n (fun f=>?_);clear n K;refine Be 17 ?_;refine wpAnyH_done Kr ?_ _;clear f hSn;go_wp2_with fail;go_meet
      case rel=>exact⟨_,A3,c3,rfl,rfl,ae,af,ag,Z4⟩
    case rest=>
     obtain⟨gt,A3,c3,rfl,rfl,b1,b2,b3,b4⟩:=hcut;obtain⟨w3,rfl⟩:=ex wc;have ah:=Hq b1;have C:=Hq b2;have E:=Hq b3;have r:=Hq (q.out.step b4);clear b1 b2 b3 b4 m
     by_cases P:e3=0
     ·have b9:(e3 != 0)=false:=by rw[P];rfl
      have HE:=Hq P;clear P s
      go_wp2_with(first|with_reducible refine lL ah.out Ej ?_|with_reducible refine lS #[.slice A3 d3.Ad.length c3,d3.left,d3.down] r.out.Am ?_)
      go_roundw
      case rel=>
       have a7:=a8.out;have P:=HE.out;subst P;refine⟨k+1,A3,c3,by omega,by go_num,by rw[a7],?_⟩;rw[a7];exact⟨r.out.row 0 #[.slice A3 d3.Ad.length c3,d3.left,d3.down] _ rfl,⟨E.out.Gf C.out.secs r.out.Am (by decide) _,C.out.small⟩,E.out.row _ _⟩
      case measure=>simp[intOf];omega
     ·have b9:(e3 != 0)=true:=by rw[bne_iff_ne];exact P
      have HE:=Hq (s.out P);clear P s
      go_upto_region 10 with(first|with_reducible refine lL ah.out Ej ?_|with_reducible refine lS #[.slice A3 d3.Ad.length c3,d3.left,d3.down] r.out.Am ?_)
      have z:=Hq (r.out.row 0 #[.slice A3 d3.Ad.length c3,d3.left,d3.down] _ rfl);have ai:=Hq (show Dv _ d3 A3 c3 from⟨E.out.Gf C.out.secs r.out.Am (by decide) #[.slice A3 d3.Ad.length c3,d3.left,d3.down],C.out.small⟩);have aj:=Hq (E.out.row w.heap.size #[.slice A3 d3.Ad.length c3,d3.left,d3.down]);generalize w3.setRow w.heap.size #[.slice A3 d3.Ad.length c3,d3.left,d3.down]=w4 at z ai aj ⊢;clear r C E ah
      go_wp2_with(first|with_reducible refine lL z.out.Am Ej ?_|with_reducible refine lS #[.slice A3 d3.Ad.length c3,d3.left,d3.down] z.out.As ?_)
      refine rT2 e3 z.out.As Ej ?_;have O:=HQ.out A3 c3 (w4.setRow (w.heap.size+1) #[.slice A3 d3.Ad.length c3,d3.left,d3.down]);rw[HE.out]at O;exact O ⟨aj.out.Gf ai.out.secs z.out.As (by decide) _,ai.out.small⟩ (aj.out.row _ _) (z.out.row 1 #[.slice A3 d3.Ad.length c3,d3.left,d3.down] _ rfl).below
   ·obtain rfl:k=4:=by omega
    go_wp2_with(first|with_reducible refine lL q.out.Am Ej ?_|with_reducible refine lS #[.slice l (D 4).1.Ad.length c2,.int .i64 (D 4).1.left,.bool (D 4).1.down] q.out.As ?_)
    refine rT2 () q.out.As Ej ?_;have O:=HQ.out l c2 (wr.setRow (w.heap.size+1) #[.slice l (D 4).1.Ad.length c2,.int .i64 (D 4).1.left,.bool (D 4).1.down]);rw[ay.out]at O;exact O ⟨H.out.Gf a1.out.secs q.out.As (by decide) _,a1.out.small⟩ (H.out.row _ _) (q.out.row 1 #[.slice l (D 4).1.Ad.length c2,.int .i64 (D 4).1.left,.bool (D 4).1.down] _ rfl).below
def Dq (x:Px)(w:World)(e:Ending)(w':World):Prop:=∃ q:SP,e= .returned (.tuple #[Ar x.s q,x.e])∧Ba w' x.s q x.fs∧Bw w w'
theorem nL (s:Tx.St)(p:SP)(fs:List Fr)(k:Nat)(B:k<fs.length)(_hfl:fs.length≤100)(c:fs[k].rc=0)(w:World)(h:Ba w s p fs):
 Cq 80 #[Ar s p,.int .i64 (k:Int)] w (Dq (Cu s fs k) w):=by
 have C:Cu s fs k=⟨s,fs,0⟩:=by unfold Cu;rw[Bh B,if_pos c]
 rw[C];have j:=Hq (fun W (l:Bw w W)=>show Dq ⟨s,fs,0⟩ w (.returned (.tuple #[Ar s p,()])) W from⟨p,rfl,h.below l,l⟩);generalize Dq ⟨s,fs,0⟩ w=Q at j ⊢;have x:=Hq h.fn;obtain⟨b,off,m,y,n,a⟩:=Cv E3 h.fr B;generalize z:fs[k]=f at a c;have o:=Hq (fun u (E:Bw w u)=>show u.rangeAt b (off+k*5) (Me f)from fun i v F=>by rw[E.cell (p:=⟨b,off+k*5+i,none⟩) n];exact a i v F);have A:=Hq m;have D:(0:Int)≤(k:Int):=by omega
 have G:(k:Int)<(fs.length:Int):=by omega
 have H:(f.rc==0)=true:=by rw[c];rfl
 clear h z a y n m C c;go_enter Tryz.func80,Tryz.ntmps80;go_upto_region 1 with fail;have e:=O2 w (Au s p) 36 #[(),(),(),'s',(),false,(),(),(),(),"",'s',(),'s',()] 36;obtain⟨d,q⟩:=Gz e;rw[← q]at e ⊢;clear q;have I:=show d.cell? ⟨w.heap.size,11,none⟩=some (.slice (some ⟨b,off,none⟩) fs.length p.fc)from by rw[Aa e.out.Am,← A.out,← x.out];rfl
 have r:=Hq (show d.rangeAt b (off+k*5) (Me f)from o.out d e.out.below)
 go_upto_region 2 with(first
  |(refine Dr Kr fun K J=>wp_load_mid 95 (.tmp 12) rfl b (off+k*5) rfl (Me f) _ r.out J5 Kr Kr (J _ _ ?_))
  |with_reducible refine sN (Gc f) ?_)
 have H1:=Hq (e.out.step (Ag d (.cells (Gc f) 95)));have t:=show(d.alloc (.cells (Gc f) 95)).cell? ⟨d.heap.size,4,none⟩=some (.int .i64 f.rc)from by rw[Aa (heap_alloc_new d (.cells (Gc f) 95))];rfl
 generalize d.alloc (.cells (Gc f) 95)=w1 at H1 t ⊢;generalize d.heap.size=g at t ⊢;clear e r I o
 try simp only[Act.put]
 go_wp2_with(first|with_reducible refine lL H1.out.Am Az ?_|with_reducible refine lS (Au s p) H1.out.As ?_)
 refine rT2 () H1.out.As Az ?_;exact j.out _ (H1.out.row 1 (Au s p) _ rfl).below
theorem nM {N n B:Nat}(s:Tx.St)(p:SP)(fs:List Fr)(hW:Wf N n B s fs)(k:Nat)(hk:k<fs.length)(Y:¬ fs[k].rc=0)(w:World)(h:Ba w s p fs):
 Cq 80 #[Ar s p,.int .i64 (k:Int)] w (Dq (Cu s fs k) w):=by
 have HP:=Hq h;have bl:=Hq h.fn;have bm:fs.length≤100:=by have:=hW.nf;omega
 have b3:=hW.n1;have hF:=hW.fr k hk;have an:=hF.is (hF.rz Y);have b4:=(Ig an).2.2.2;obtain⟨pg,a6⟩:∃ pg:Nat,fs[k].Ab=(pg:Int):=⟨fs[k].Ab.toNat,by have:=hF.pg;omega⟩;have bn:pg<n:=by have:=hF.pg;omega
 have l:=hW.low;have a7:=Hq (fun W (G:Bw w W)=>mK s.Ai hW.dk.lb p.A p.c s.log l.e0 (by have:=l.ef;omega) (by have:=l.n;omega) (by have:=l.n;omega) (by have:=l.f;omega) (by have:=l.f;omega) (by have:=l.t0;have:=l.ef;omega) l.t0 l.t1 W (h.st.dk.below G));have a8:=hW.dk.force s.log;have b5:F9 s (pg:Int)=1+N+4*pg:=by unfold F9;rw[hW.zl];omega
 have aw:Cu s fs k=if ¬ (Lg.A4 s.Ai s.log).2.2=0 then⟨{s with Ai:=(Lg.A4 s.Ai s.log).1,log:=(Lg.A4 s.Ai s.log).2.1},fs,(Lg.A4 s.Ai s.log).2.2⟩else
  if ¬ (F5 (Lg.A4 s.Ai s.log).1 (1+N+4*pg) (E5 fs[k].bytes) 4).2=0 then⟨{s with Ai:=(F5 (Lg.A4 s.Ai s.log).1 (1+N+4*pg) (E5 fs[k].bytes) 4).1,log:=(Lg.A4 s.Ai s.log).2.1},fs,(F5 (Lg.A4 s.Ai s.log).1 (1+N+4*pg) (E5 fs[k].bytes) 4).2⟩
  else⟨{s with Ai:=(F5 (Lg.A4 s.Ai s.log).1 (1+N+4*pg) (E5 fs[k].bytes) 4).1,log:=(Lg.A4 s.Ai s.log).2.1},fs.set k {fs[k]with rc:=0},0⟩:=by
  unfold Cu;rw[Bh hk,if_neg Y,a6,b5]
 rw[aw];generalize Lg.A4 s.Ai s.log=y at a7 a8 aw ⊢;obtain⟨d2,d,H⟩:=y;simp only at a7 a8 ⊢;have ax:=Hq (fun A c W=>Sr {s with Ai:=d2,log:=d} {p with A:=A,c:=c} N pg hW.zl b3.2.2 (by omega) W);have aa:=Hq (fun W=>lK fs[k].bytes (by have:=hF.sz;omega) W);have P:=Hq (fun A c W (hr:Dv W d2 A c) (ht:Df 0 W 9 A)=>cS d2 a8 A c (1+N+4*pg) (by omega) (by omega) (E5 fs[k].bytes) b4 W hr ht);generalize E5 fs[k].bytes=z at aa P ⊢;generalize 1+N+4*pg=at_ at ax P ⊢;generalize F5 d2 at_ z 4=y at P ⊢;obtain⟨d3,e3⟩:=y;simp only at P ⊢;generalize hX:(if ¬ H=0 then(⟨{s with Ai:=d2,log:=d},fs,H⟩:Px)else if ¬ e3=0 then⟨{s with Ai:=d3,log:=d},fs,e3⟩else⟨{s with Ai:=d3,log:=d},fs.set k {fs[k]with rc:=0},0⟩)=X;have ay:=Hq (fun(h2:¬ H=0) (w':World) (q:SP) (hp:Ba w' {s with Ai:=d2,log:=d} q fs) (G:Bw w w')=>show Dq X w (.returned (.tuple #[Ar {s with Ai:=d2,log:=d} q,H])) w' from by rw[← hX,if_pos h2];exact⟨q,rfl,hp,G⟩);have ae:=Hq (fun(h2:H=0) (h3:¬ e3=0) (w':World) (q:SP) (hp:Ba w' {s with Ai:=d3,log:=d} q fs) (G:Bw w w')=>show Dq X w (.returned (.tuple #[Ar {s with Ai:=d3,log:=d} q,e3])) w' from by rw[← hX,if_neg (fun hn=>hn h2),if_pos h3];exact⟨q,rfl,hp,G⟩);have Z:=Hq (fun(h2:H=0) (h3:e3=0) (w':World) (q:SP) (hp:Ba w' {s with Ai:=d3,log:=d} q (fs.set k {fs[k]with rc:=0})) (G:Bw w w')=>show Dq X w (.returned (.tuple #[Ar {s with Ai:=d3,log:=d} q,()])) w' from by rw[← hX,if_neg (fun hn=>hn h2),if_neg (fun hn=>hn h3)];exact⟨q,rfl,hp,G⟩);generalize Dq X w=Q at ay ae Z ⊢;obtain⟨b,off,b6,bo,az,I⟩:=Cv E3 h.fr hk;clear hX aw l a8 hF an b4;generalize bp:fs[k]=f at I Z aa a6 Y;have bq:=Hq az;have b7:=Hq (fun u (hu:Bw w u)=>show u.rangeAt b (off+k*5) (Me f)from fun i v hv=>by rw[hu.cell (p:=⟨b,off+k*5+i,none⟩) az];exact I i v hv);have b8:=Hq b6;have ca:(0:Int)≤(k:Int):=by omega
 have cb:(k:Int)<(fs.length:Int):=by omega
 have C:=Hq a6;have br:(f.rc==0)=false:=beq_eq_false_iff_ne.2 Y;clear h hW b5 bp I bo az b6 bn a6 b3 Y;go_enter Tryz.func80,Tryz.ntmps80;go_upto_region 1 with fail;have H0:=O2 w (Au s p) 36 #[(),(),(),'s',(),false,(),(),(),(),"",'s',(),'s',()] 36;obtain⟨W0,b9⟩:=Gz H0;rw[← b9]at H0 ⊢;clear b9;have hc:=show W0.cell? ⟨w.heap.size,11,none⟩=some (.slice (some ⟨b,off,none⟩) fs.length p.fc)from by rw[Aa H0.out.Am,← b8.out,← bl.out];rfl
 have ba:=Hq (show W0.rangeAt b (off+k*5) (Me f)from b7.out W0 H0.out.below)
 go_upto_region 2 with(first
  |(refine Dr Kr fun K R=>wp_load_mid 95 (.tmp 12) rfl b (off+k*5) rfl (Me f) _ ba.out J5 Kr Kr (R _ _ ?_))
  |with_reducible refine sN (Gc f) ?_)
 have H1:=Hq (H0.out.step (Ag W0 (.cells (Gc f) 95)));have HG:=Hq (heap_alloc_new W0 (.cells (Gc f) 95));have bs:w.heap.size+1<W0.heap.size:=H0.out.lt (i:=1) (by simp);obtain⟨g,hg⟩:=ex W0.heap.size;obtain⟨w1,af⟩:=ex (W0.alloc (.cells (Gc f) 95));rw[← hg,← af]at HG;rw[← af]at H1;rw[← af,← hg];rw[← hg]at bs;clear af hg H0 ba hc b7
 try simp only[Act.put]
 have bt:=show w1.cell? ⟨g,4,none⟩=some (.int .i64 f.rc)from by rw[Aa HG.out];rfl
 go_upto_region 6 with(first
  |with_reducible refine lP #[.slice p.A s.Ai.Ad.length p.c,s.Ai.left,s.Ai.down] H1.out.Am Ej ?_
  |with_reducible refine lP #[s.log.from_,s.log.n,s.log.end_,s.log.safe,s.log.tail] H1.out.Am Ks ?_
  |(go_at_call 128;refine(a7.out _ H1.out.below).mono ?_;rintro e w2 ⟨A2,c2,rfl,bb,bc,ag⟩;have H2:=Hq (H1.out.step ag);have H3:=Hq (show Fc w.heap.size w [((Au {s with Ai:=d2} {p with A:=A2,c:=c2}),36),(#[(),(),(),'s',(),false,(),(),(),(),"",'s',(),'s',()],36)] (w2.setRow w.heap.size (Au {s with Ai:=d2} {p with A:=A2,c:=c2}))from H2.out.row 0 (Au {s with Ai:=d2} {p with A:=A2,c:=c2}) _ rfl))
  |with_reducible refine lU #[.slice A2 d2.Ad.length c2,d2.left,d2.down] (Au {s with Ai:=d2} {p with A:=A2,c:=c2}) H2.out.Am ?_
  |with_reducible refine lU #[d.from_,d.n,d.end_,d.safe,d.tail] (Au {s with Ai:=d2,log:=d} {p with A:=A2,c:=c2}) H3.out.Am ?_)
 have ao:Df 0 w2 9 A2:=bc.elim (fun e=>by rw[e];exact HP.out.st.dt.below H2.out.below) (fun e=>e.mono (Nat.zero_le _));have bd:Below w.heap.size w2 ((w2.setRow w.heap.size (Au {s with Ai:=d2} {p with A:=A2,c:=c2})).setRow w.heap.size (Au {s with Ai:=d2,log:=d} {p with A:=A2,c:=c2})):=Mf (Nat.le_refl _) (Mf (Nat.le_refl _) (show Below w.heap.size w2 w2 from⟨rfl,rfl,rfl,Nat.le_refl _,fun _ _=>rfl⟩) (Au {s with Ai:=d2} {p with A:=A2,c:=c2})) (Au {s with Ai:=d2,log:=d} {p with A:=A2,c:=c2});have H4:=Hq (show Fc w.heap.size w [((Au {s with Ai:=d2,log:=d} {p with A:=A2,c:=c2}),36),(#[(),(),(),'s',(),false,(),(),(),(),"",'s',(),'s',()],36)] ((w2.setRow w.heap.size (Au {s with Ai:=d2} {p with A:=A2,c:=c2})).setRow w.heap.size (Au {s with Ai:=d2,log:=d} {p with A:=A2,c:=c2}))from H3.out.row 0 (Au {s with Ai:=d2,log:=d} {p with A:=A2,c:=c2}) _ rfl);have b0:=Hq ((Aw _ _ (Au {s with Ai:=d2,log:=d} {p with A:=A2,c:=c2}) _ (show g≠w.heap.size by omega)).trans ((Aw _ _ (Au {s with Ai:=d2} {p with A:=A2,c:=c2}) _ (show g≠w.heap.size by omega)).trans (Ae HG.out ag)));have bf:=Hq ((HP.out.below H1.out.below).Ai ag d bb ao);have T:=Hq (((bf.out.other (t:=36) H2.out.Am (by decide) (by decide) (by decide) (Au {s with Ai:=d2} {p with A:=A2,c:=c2}))).other (t:=36) H3.out.Am (by decide) (by decide) (by decide) (Au {s with Ai:=d2,log:=d} {p with A:=A2,c:=c2}));generalize (w2.setRow w.heap.size (Au {s with Ai:=d2} {p with A:=A2,c:=c2})).setRow w.heap.size (Au {s with Ai:=d2,log:=d} {p with A:=A2,c:=c2})=w3 at H4 b0 T bd ⊢;clear bb bc ao bd ag H1 H2 H3 HG a7 HP bf bt br
 try simp only[Act.put]
 by_cases U:H=0
 ·have bu:(H != 0)=false:=by rw[U];rfl
  have ah:=Hq U;clear U ay;go_upto_region 8 with fail
  go_cut [7] (fun x wc=>x= .int .i64 e3∧∃ (J:Option Addr) (c3:Nat),Fc w.heap.size w [((Au {s with Ai:=d3,log:=d} {p with A:=J,c:=c3}),36),(#[(),(),(),'s',(),false,(),(),(),(),"",'s',(),'s',()],36)] wc∧wc.heap[g]? =some (.cells (Gc f) 95 (0,0))∧Ba wc {s with Ai:=d3,log:=d} {p with A:=J,c:=c3} fs)
  case first=>
   have ai:=Hq (fun(u:World) (hu:Bw w3 u)=>show u.heap[w.heap.size]? =some (.cells (Au {s with Ai:=d2,log:=d} {p with A:=A2,c:=c2}) 36 (0,0))∧u.heap[g]? =some (.cells (Gc f) 95 (0,0))from⟨Ae H4.out.Am hu,Ae b0.out hu⟩);have r:Bw w3 w3.drew:=(Below.refl _ w3).drew;have hSn:=ai.out _ r;refine Gh (S:=(fun u=>u.heap[w.heap.size]? =some (.cells (Au {s with Ai:=d2,log:=d} {p with A:=A2,c:=c2}) 36 (0,0))∧u.heap[g]? =some (.cells (Gc f) 95 (0,0)))) 14 Kr ?_ (fun L=>?_)
   ·exact hSn
   generalize w3.drew=w8 at r hSn ⊢;refine Bu (i:=0) (oi:={dst:=some 34,op:=_,type:=_,pos:=_,after:=_,guard:=_}) (v:=?_) (p:=[14]) rfl Kr Kr Kr Kr Kr Kr (fun _ _ _ h=>h) (Or.inl ⟨by rfl,?_⟩) (by assumption) ?_
   rotate_left
   ·intro u a;have hcl0:=show u.cell? ⟨g,0,none⟩=some (.int .i64 (pg:Int))from(by rw[Aa a.2,← C.out];rfl);have hcl1:=show u.cell? ⟨g,1,none⟩=some (.string f.bytes)from(by rw[Aa a.2];rfl)
    clear a;go_simp;(try with_reducible rfl)
   try simp only[Act.put,pS]
   refine Bu (i:=1) (oi:={dst:=some 35,op:=_,type:=_,pos:=_,after:=_,guard:=_}) (v:=.agg #[.slice A2 d2.Ad.length c2,d2.left,d2.down]) (p:=[14]) rfl Kr Kr Kr Kr Kr Kr (fun _ _ _ h=>h) (yieldsIf_load_mid (by rfl) 28 (.tmp 34) rfl w.heap.size 3 (by rfl) [.slice A2 d2.Ad.length c2,.int .i64 d2.left,.bool d2.down] _ (fun u hu j v hj=>by rw[Aa hu.1];rcases j with _|_|_|j<;>simp at hj ⊢<;>exact hj) Ej Kr Kr) (by assumption) ?_
   try simp only[Act.put,pS]
   refine tzL 2 [14] Az ?_;refine Bu (i:=3) (oi:={dst:=some 37,op:=_,type:=_,pos:=_,after:=_,guard:=_}) (v:=?_) (p:=[14]) rfl Kr Kr Kr Kr Kr Kr (fun _ _ _ h=>h) (Or.inl ⟨by rfl,?_⟩) (by assumption) ?_
   rotate_left
   ·intro u a;have hcl0:=show u.cell? ⟨g,0,none⟩=some (.int .i64 (pg:Int))from(by rw[Aa a.2,← C.out];rfl);have hcl1:=show u.cell? ⟨g,1,none⟩=some (.string f.bytes)from(by rw[Aa a.2];rfl)
    clear a;go_simp;(try with_reducible rfl)
   try simp only[Act.put,pS]
   refine Bu (i:=4) (oi:={dst:=some 38,op:=_,type:=_,pos:=_,after:=_,guard:=_}) (v:=?_) (p:=[14]) rfl Kr Kr Kr Kr Kr Kr (fun _ _ _ h=>h) (Or.inl ⟨by rfl,?_⟩) (by assumption) ?_
   rotate_left
   ·intro u a;have hcl0:=show u.cell? ⟨g,0,none⟩=some (.int .i64 (pg:Int))from(by rw[Aa a.2,← C.out];rfl);have hcl1:=show u.cell? ⟨g,1,none⟩=some (.string f.bytes)from(by rw[Aa a.2];rfl)
    clear a;go_simp;(try with_reducible rfl)
   try simp only[Act.put,pS]
   refine Bu (i:=6) (oi:={dst:=some 40,op:=_,type:=_,pos:=_,after:=_,guard:=_}) (v:=?_) (p:=[14]) rfl Kr Kr Kr Kr Kr Kr (fun _ _ _ h=>h) (Or.inl ⟨by rfl,?_⟩) (by assumption) ?_
   rotate_left
   ·intro u a;have hcl0:=show u.cell? ⟨g,0,none⟩=some (.int .i64 (pg:Int))from(by rw[Aa a.2,← C.out];rfl);have hcl1:=show u.cell? ⟨g,1,none⟩=some (.string f.bytes)from(by rw[Aa a.2];rfl)
    clear a;go_simp;(try with_reducible rfl)
   try simp only[Act.put,pS]
   refine Bu (i:=7) (oi:={dst:=some 41,op:=_,type:=_,pos:=_,after:=_,guard:=_}) (v:=?_) (p:=[14]) rfl Kr Kr Kr Kr Kr Kr (fun _ _ _ h=>h) (Or.inl ⟨by rfl,?_⟩) (by assumption) ?_
   rotate_left
   ·intro u a;have hcl0:=show u.cell? ⟨g,0,none⟩=some (.int .i64 (pg:Int))from(by rw[Aa a.2,← C.out];rfl);have hcl1:=show u.cell? ⟨g,1,none⟩=some (.string f.bytes)from(by rw[Aa a.2];rfl)
    clear a;go_simp;(try with_reducible rfl)
   try simp only[Act.put,pS]
   refine Bg (rs:=[5]) Kr (by simp) ?_;refine(Ap.cons (o:={dst:=some 39,op:=_,type:=_,pos:=_,after:=_,guard:=_}) rfl (fun K R=>?_) Ap.nil)
   go_simp
   (refine(ax.out A2 c2 _).mono ?_);rintro e w9 ⟨rfl,m⟩;have D:=Af r m;clear r hSn m;have r:=D;clear D;have hSn:=ai.out _ r
   refine Db R (fun L=>?_);clear R K;refine Bg (rs:=[8]) Kr (by simp) ?_;refine(Ap.cons (o:={dst:=some 42,op:=_,type:=_,pos:=_,after:=_,guard:=_}) rfl (fun K R=>?_) Ap.nil)
   go_simp
   (refine(aa.out _).mono ?_);rintro e w9 ⟨rfl,m⟩;have D:=Af r m;clear r hSn m;have r:=D;clear D;have hSn:=ai.out _ r
   refine Db R (fun L=>?_);clear R K;refine Bg (rs:=[9]) Kr (by simp) ?_;refine(Ap.cons (o:={dst:=some 43,op:=_,type:=_,pos:=_,after:=_,guard:=_}) rfl (fun K R=>?_) Ap.nil)
   go_simp
   (refine(P.out A2 c2 _ (T.out.below r).st.dk (T.out.below r).st.dt).mono ?_);rintro e w9 ⟨J,c3,rfl,bg,bh,m⟩;have bw:=(T.out.below r).Ai m d bg bh;clear bg bh;have D:=Af r m;clear r hSn m;have r:=D;clear D;have hSn:=ai.out _ r
   refine Db R (fun L=>?_);clear R K;refine Bu (i:=10) (oi:={dst:=some 33,op:=_,type:=_,pos:=_,after:=_,guard:=_}) (v:=?_) (p:=[14]) rfl Kr Kr Kr Kr Kr Kr (fun _ _ _ h=>h) (Or.inl ⟨by rfl,?_⟩) (by assumption) ?_
   rotate_left
   ·intro u a;have hcl0:=show u.cell? ⟨g,0,none⟩=some (.int .i64 (pg:Int))from(by rw[Aa a.2,← C.out];rfl);have hcl1:=show u.cell? ⟨g,1,none⟩=some (.string f.bytes)from(by rw[Aa a.2];rfl)
    clear a;go_simp;(try with_reducible rfl)
   try simp only[Act.put,pS]
   refine Bu (i:=11) (oi:={dst:=some 44,op:=_,type:=_,pos:=_,after:=_,guard:=_}) (v:=?_) (p:=[14]) rfl Kr Kr Kr Kr Kr Kr (fun _ _ _ h=>h) (Or.inl ⟨by rfl,?_⟩) (by assumption) ?_
   rotate_left
   ·intro u a;have hcl0:=show u.cell? ⟨g,0,none⟩=some (.int .i64 (pg:Int))from(by rw[Aa a.2,← C.out];rfl);have hcl1:=show u.cell? ⟨g,1,none⟩=some (.string f.bytes)from(by rw[Aa a.2];rfl)
    clear a;go_simp;(try with_reducible rfl)
   try simp only[Act.put,pS]
   refine J7 (i:=12) (oi:={dst:=some 45,op:=_,type:=_,pos:=_,after:=_,guard:=_}) (v:=?_) rfl Kr Kr Kr Kr (fun _ _ _ h=>h) (Or.inl ⟨by rfl,?_⟩) (fun _=>by assumption) ?_
   rotate_left
   ·intro u a;clear a;go_simp;(try with_reducible rfl)
   try simp only[Act.put,pS]
   refine Bu (i:=13) (oi:={dst:=some 46,op:=_,type:=_,pos:=_,after:=_,guard:=_}) (v:=?_) (p:=[14]) rfl Kr Kr Kr Kr Kr Kr (fun _ _ _ h=>h) (Or.inl ⟨by rfl,?_⟩) (by assumption) ?_
   rotate_left
   ·intro u a;have hcl0:=show u.cell? ⟨g,0,none⟩=some (.int .i64 (pg:Int))from(by rw[Aa a.2,← C.out];rfl);have hcl1:=show u.cell? ⟨g,1,none⟩=some (.string f.bytes)from(by rw[Aa a.2];rfl)
    clear a;go_simp;(try with_reducible rfl)
   try simp only[Act.put,pS]
   refine Bg (rs:=[14]) Kr (by simp) ?_;refine(Ap.last (o:={dst:=none,op:=_,type:=_,pos:=_,after:=_,guard:=_}) rfl Kr (fun K R=>?_) Ap.nil);refine Cp (by rfl) ?_;refine Aay 28 (.tmp 46) (.tmp 44) rfl w.heap.size 3 #[.slice J d3.Ad.length c3,d3.left,d3.down] (Au {s with Ai:=d2,log:=d} {p with A:=A2,c:=c2}) (Au {s with Ai:=d3,log:=d} {p with A:=J,c:=c3}) _ rfl rfl hSn.1 Kr Kr Kr Kr ?_;refine R.out _ _ ?_;clear R K
   try simp only[Act.put]
   refine J7 (i:=15) (oi:={dst:=some 7,op:=_,type:=_,pos:=_,after:=_,guard:=_}) (v:=?_) rfl Kr Kr Kr Kr (fun _ _ _ h=>h) (Or.inl ⟨by rfl,?_⟩) (fun h=>absurd h (by decide)) ?_
   rotate_left
   ·intro u a;clear a;go_simp;(try with_reducible rfl)
   try simp only[Act.put,pS]
   refine Gg Kr ?_ _;go_wp2_with fail;go_meet
   case rel=>exact⟨rfl,J,c3,(H4.out.step r).row 0 (Au {s with Ai:=d3,log:=d} {p with A:=J,c:=c3}) _ rfl,(Aw _ _ (Au {s with Ai:=d3,log:=d} {p with A:=J,c:=c3}) _ (show g≠w.heap.size by omega)).trans hSn.2,bw.other (t:=36) hSn.1 (by decide) (by decide) (by decide) (Au {s with Ai:=d3,log:=d} {p with A:=J,c:=c3})⟩
  case rest=>
   obtain⟨rfl,J,c3,bj,aq,ar⟩:=hcut;obtain⟨aj,rfl⟩:=ex wc;have O:=Hq bj;have E:=Hq aq;have a1:=Hq ar;clear bj aq ar H4 b0 T aa P ax
   by_cases V:e3=0
   ·have bx:(e3 != 0)=false:=by rw[V];rfl
    have b1:=Hq V;clear V ae;have bz:=show aj.cell? ⟨g,4,none⟩=some (.int .i64 f.rc)from(by rw[Aa E.out];rfl);have c6:=Aj E.out 4;have c7:=Hq (fun W (hp:Ba W {s with Ai:=d3,log:=d} {p with A:=J,c:=c3} fs)=>Ht {s with Ai:=d3,log:=d} {p with A:=J,c:=c3} fs bm k hk {f with rc:=0} W hp);go_upto_region 12 with fail;have au:=Hq (show(aj.setCell ⟨g,4,none⟩ (.int .i64 0)).heap[g]? =some (.cells (Gc {f with rc:=0}) 95 (0,0))from by have:=Cb 4 E.out (.int .i64 0);simpa using this);have b2:=Hq (O.out.under (M:=g) (by simp;omega) ((Below.refl _ aj).setCell (p:=⟨g,4,none⟩) (Nat.le_refl _) (.int .i64 0)));have av:=Hq (a1.out.own E.out (fun ad e=>by have H:p.F=some ad:=e;rw[b8.out]at H;injection H with H;subst H;have:=bq.out;show b≠g;omega) 4 (.int .i64 0));generalize aj.setCell ⟨g,4,none⟩ (.int .i64 0)=w14 at au b2 av ⊢;clear bz c6 O a1 E
    go_wp2_with(first
     |with_reducible refine lL b2.out.Am Az ?_
     |with_reducible refine lL au.out J5 ?_
     |(go_at_call 75;refine(c7.out _ av.out).mono ?_;rintro e cc ⟨q,rfl,c8,bk⟩;have ak:=Hq (b2.out.step bk))
     |with_reducible refine lS (Au {s with Ai:=d3,log:=d} q) ak.out.As ?_)
    refine rT2 () ak.out.As Az ?_;exact Z.out ah.out b1.out _ q (c8.other ak.out.As (by decide) (by decide) (by decide) _) (ak.out.row 1 (Au {s with Ai:=d3,log:=d} q) _ rfl).below
   ·have bx:(e3 != 0)=true:=by rw[bne_iff_ne];exact V
    have b1:=Hq V;clear V Z
    go_wp2_with(first|with_reducible refine lL O.out.Am Az ?_|with_reducible refine lS (Au {s with Ai:=d3,log:=d} {p with A:=J,c:=c3}) O.out.As ?_)
    refine rT2 e3 O.out.As Az ?_;exact ae.out ah.out b1.out _ {p with A:=J,c:=c3} (a1.out.other O.out.As (by decide) (by decide) (by decide) _) (O.out.row 1 (Au {s with Ai:=d3,log:=d} {p with A:=J,c:=c3}) _ rfl).below
 ·have bu:(H != 0)=true:=by rw[bne_iff_ne];exact U
  have ah:=Hq U;clear U ae Z
  go_wp2_with(first|with_reducible refine lL H4.out.Am Az ?_|with_reducible refine lS (Au {s with Ai:=d2,log:=d} {p with A:=A2,c:=c2}) H4.out.As ?_)
  refine rT2 H H4.out.As Az ?_;exact ay.out ah.out _ {p with A:=A2,c:=c2} (T.out.other H4.out.As (by decide) (by decide) (by decide) _) (H4.out.row 1 (Au {s with Ai:=d2,log:=d} {p with A:=A2,c:=c2}) _ rfl).below
theorem Ss {N n B:Nat}(s:Tx.St)(p:SP)(fs:List Fr)(b:Wf N n B s fs)(k:Nat)(c:k<fs.length)(w:World)(h:Ba w s p fs):
 Cq 80 #[Ar s p,.int .i64 (k:Int)] w (Dq (Cu s fs k) w):=by
 by_cases a:fs[k].rc=0
 ·exact nL s p fs k c (by have:=b.nf;omega) a w h
 ·exact nM s p fs b k c a w h
def Aaz (s:Tx.St)(n:Nat)(o:Option (Nat×List Fr))(w:World)(e:Ending)(w':World):Prop:=
 ∃ (x kk:Int) (q:SP),e= .returned (.tuple #[Ar {s with hand:=x} q,kk])∧Bw w w'∧
  ((∃ (k:Nat) (fs':List Fr),o=some (k,fs')∧x=(((k+1)%n:Nat):Int)∧kk=(k:Int)∧Ba w' {s with hand:=x} q fs')∨(o=none∧kk= -1∧x=s.hand))
theorem Xl.one {s:Tx.St}{n:Nat}{o:Option (Nat×List Fr)}{w:World}{e:Ending}{w':World}(h:Xl s n o w e w'):Aaz s n o w e w':=by
 rcases h with⟨k,a,q,x,b,c,d,f,g⟩|⟨b,q,c,d⟩
 ·exact⟨x,k,q,d,g,.inl ⟨k,a,b,c,rfl,f⟩⟩
 ·exact⟨s.hand,-1,q,c,d,.inr ⟨b,rfl,rfl⟩⟩
def cU (x:Px×Nat)(w:World)(e:Ending)(w':World):Prop:=∃ q:SP,e= .returned (.tuple #[Ar x.1.s q,.int .i64 (x.2:Int),x.1.e])∧(x.1.e=0∨x.1.e=20→Ba w' x.1.s q x.1.fs)∧Bw w w'
theorem Gn (s:Tx.St)(p:SP)(s2:Tx.St)(c:SP)(x:Int)(w:World):
 Cr 81 #[Ar s p,Ar s2 c,x] w (if x=0∨x=20 then Ar s2 c else Ar s p):=by
 by_cases d:x=0
 ·rw[if_pos (.inl d)]
  have f:(x==0)=true:=by rw[d];rfl
  clear d;go_enter Tryz.func81,Tryz.ntmps81;go_upto_region 1 with fail;have a:=Ti w (Au s p) 36 (Au s2 c) 36 #[(),(),(),'s',(),false,(),(),(),(),"",'s',(),'s',()] 36;obtain⟨i,b⟩:=Gz a;rw[← b]at a ⊢;clear b
  go_wp2_with(first|with_reducible refine lL a.out.As Az ?_|with_reducible refine lS (Au s2 c) a.out.Cc ?_)
  refine rT1 a.out.Cc Az ?_;exact⟨rfl,(a.out.row 2 (Au s2 c) _ rfl).below⟩
 ·have f:(x==0)=false:=beq_eq_false_iff_ne.2 d
  by_cases e:x=20
  ·rw[if_pos (.inr e)]
   have g:(x==20)=true:=(by rw[e];rfl);clear d e;go_enter Tryz.func81,Tryz.ntmps81;go_upto_region 1 with fail;have a:=Ti w (Au s p) 36 (Au s2 c) 36 #[(),(),(),'s',(),false,(),(),(),(),"",'s',(),'s',()] 36;obtain⟨i,b⟩:=Gz a;rw[← b]at a ⊢;clear b
   go_wp2_with(first|with_reducible refine lL a.out.As Az ?_|with_reducible refine lS (Au s2 c) a.out.Cc ?_)
   refine rT1 a.out.Cc Az ?_;exact⟨rfl,(a.out.row 2 (Au s2 c) _ rfl).below⟩
  ·rw[if_neg (fun h=>h.elim d e)]
   have g:(x==20)=false:=beq_eq_false_iff_ne.2 e;clear d e;go_enter Tryz.func81,Tryz.ntmps81;go_upto_region 1 with fail;have a:=Ti w (Au s p) 36 (Au s2 c) 36 #[(),(),(),'s',(),false,(),(),(),(),"",'s',(),'s',()] 36;obtain⟨i,b⟩:=Gz a;rw[← b]at a ⊢;clear b
   go_wp2_with(first|with_reducible refine lL a.out.Am Az ?_|with_reducible refine lS (Au s p) a.out.Cc ?_)
   refine rT1 a.out.Cc Az ?_;exact⟨rfl,(a.out.row 2 (Au s p) _ rfl).below⟩
theorem Vk {N n B:Nat}(s:Tx.St)(p:SP)(fs:List Fr)(L:Wf N n B s fs)(hB:B≤1000000)(w:World)(h:Ba w s p fs):
 Cq 119 #[Ar s p] w (cU (Bc s fs) w):=by
 have ae:=L.nf;have M:=Hq (fun W (hb:Bw w W)=>Vb (fun f=>¬ Full f) 54 #[] (enters_of Tryz.func54 Kr rfl) fs (by omega) p.F p.fc W (h.fr.below hb) (fun f _ V _=>by simpa using Xi f V));have y:=Hq (fun W (hb:Bw w W)=>(Zd s p fs ae L.hd (fun i hi=>by have:=(L.fr i hi).pn;omega) W (h.below hb)).mono fun _ _ C=>C.one);have af:=Hq h.fn;obtain⟨X,O⟩:=ex (Bc s fs);rw[← O];have E:=Hq (fun W (g:Bw w W) (k:Nat) (P:Mh fs=some k)=>show cU X w (.returned (.tuple #[Ar s p,.int .i64 (k:Int),()])) W from by
  have e:X=(⟨s,fs,0⟩,k):=by rw[O];unfold Bc;rw[P]
  rw[e];exact⟨p,rfl,fun _=>h.below g,g⟩)
 have m:=Hq (fun W (g:Bw w W) (P:Mh fs=none) (r:Mg fs.length (2*fs.length) (s.hand.toNat%fs.length) fs=none) (q:SP)=>show cU X w (.returned (.tuple #[Ar s q,(),.int .i64 18])) W from by
  have e:X=(⟨s,fs,18⟩,0):=by rw[O];unfold Bc;rw[P];simp only;rw[r]
  rw[e];exact⟨q,rfl,fun h=>absurd h (by show ¬ ((18:Int)=0∨(18:Int)=20);decide),g⟩)
 have o:=Hq (fun W (g:Bw w W) (P:Mh fs=none) (k:Nat) (l:List Fr) (r:Mg fs.length (2*fs.length) (s.hand.toNat%fs.length) fs=some (k,l)) (x:Int) (C:x=(((k+1)%fs.length:Nat):Int)) (Y:Px) (G:Y=Cu {s with hand:=x} l k) (q:SP) (H:Ba W Y.s q Y.fs)=>show cU X w (.returned (.tuple #[Ar Y.s q,.int .i64 (k:Int),Y.e])) W from by
  have e:X=(Y,k):=by rw[O];unfold Bc;rw[P];simp only;rw[r,G,C]
  rw[e];exact⟨q,rfl,fun _=>H,g⟩)
 have u:=Hq (fun(k:Nat) (l:List Fr) (r:Mg fs.length (2*fs.length) (s.hand.toNat%fs.length) fs=some (k,l)) (x:Int) (C:x=(((k+1)%fs.length:Nat):Int)) (q:SP) W (H:Ba W {s with hand:=x} q l)=>show Cq 80 #[Ar {s with hand:=x} q,.int .i64 (k:Int)] W (Dq (Cu {s with hand:=x} l k) W)from by
  obtain⟨h1,h2,_⟩:=Ii fs.length (by omega) _ _ fs fs k l rfl (Nat.mod_lt _ (by omega)) (V5.refl fs) r;have hm:(k+1)%fs.length<fs.length:=Nat.mod_lt _ (by omega);exact Ss {s with hand:=x} q l ((L.hand (x:=x) (by omega)).marks h2) k (by have:=h2.len;omega) W H)
 clear O;generalize cU X w=Q at E m o ⊢;generalize Mg fs.length (2*fs.length) (s.hand.toNat%fs.length) fs=V at y m o u;clear h L;go_enter Tryz.func119,Tryz.ntmps119;go_upto_region 1 with fail;have J:=O2 w (Au s p) 36 #[(),(),(),'s',(),false,(),(),(),(),"",'s',(),'s',()] 36;obtain⟨W0,R⟩:=Gz J;rw[← R]at J ⊢;clear R;have hc:=show W0.cell? ⟨w.heap.size,11,none⟩=some (.slice p.F fs.length p.fc)from by rw[Aa J.out.Am,← af.out];rfl
 go_upto_region 2 with(go_at_call 52;refine(M.out _ J.out.below).mono ?_;rintro e w1 ⟨kk,rfl,hq,g⟩;have H1:=Hq (J.out.step g);clear g M hc J;rcases hq with⟨rfl,hq⟩|⟨k,hk,rfl,S,T⟩)
 ·have ak:¬ (0:Int)≤-1:=by decide
  have U:=Hq (Vf hq);clear hq E
  go_upto_region 5 with(first
   |with_reducible refine lL H1.out.Am Az ?_
   |(go_at_call 166;refine(y.out _ H1.out.below).mono ?_;rintro e w2 ⟨x,kk,q,rfl,Z,a1⟩;have H2:=Hq (H1.out.step Z))
   |with_reducible refine lS (Au {s with hand:=x} q) H2.out.Am ?_)
  have D:=Hq (show Fc w.heap.size w [((Au {s with hand:=x} q),36),(#[(),(),(),'s',(),false,(),(),(),(),"",'s',(),'s',()],36)] (w2.setRow w.heap.size (Au {s with hand:=x} q))from H2.out.row 0 (Au {s with hand:=x} q) _ rfl);have z:=Hq (show(∃ (k:Nat) (l:List Fr),V=some (k,l)∧x=(((k+1)%fs.length:Nat):Int)∧kk=(k:Int)∧Ba (w2.setRow w.heap.size (Au {s with hand:=x} q)) {s with hand:=x} q l)∨(V=none∧kk= -1∧x=s.hand)from a1.imp (fun⟨k,l,a,b,c,d⟩=>⟨k,l,a,b,c,d.other (t:=36) H2.out.Am (by decide) (by decide) (by decide) (Au {s with hand:=x} q)⟩) id);generalize w2.setRow w.heap.size (Au {s with hand:=x} q)=w3 at D z ⊢;clear Z a1 H1 H2 y
  try simp only[Act.put]
  rcases z.out with⟨k,I,r,C,rfl,a6⟩|⟨r,rfl,rfl⟩
  ·have a7:=Hq a6
   clear a6 z;have v:=Hq (fun W H=>u.out k I r x C q W H);have ag:=Hq (fun W g Y G q H=>o.out W g U.out k I r x C Y G q H);have an:¬ (k:Int)<0:=(by omega);clear u o m r C;obtain⟨Y,G⟩:=ex (Cu {s with hand:=x} I k);rw[← G]at v;have HY:=Hq G;clear G
   try simp only[Act.put]
   go_upto_region 8 with(first
    |with_reducible refine lL D.out.Am Az ?_
    |(go_at_call 80;refine(v.out _ a7.out).mono ?_;rintro e w4 ⟨A,rfl,a8,aa⟩;have H4:=Hq (D.out.step aa))
    |with_reducible refine lS (Au Y.s A) H4.out.Am ?_)
   have K:=Hq (show Fc w.heap.size w [((Au Y.s A),36),(#[(),(),(),'s',(),false,(),(),(),(),"",'s',(),'s',()],36)] (w4.setRow w.heap.size (Au Y.s A))from H4.out.row 0 (Au Y.s A) _ rfl);have ad:=Hq (a8.other (t:=36) H4.out.Am (by decide) (by decide) (by decide) (Au Y.s A));generalize w4.setRow w.heap.size (Au Y.s A)=w5 at K ad ⊢;clear aa a8 D H4 a7 v
   try simp only[Act.put]
   go_wp2_with(first
    |with_reducible refine lL K.out.Am Az ?_
    |with_reducible refine lS (Au Y.s A) K.out.As ?_)
   refine rT3 (.int .i64 (k:Int)) (Y.e) K.out.As Az ?_;exact ag.out _ (K.out.row 1 (Au Y.s A) _ rfl).below Y HY.out A (ad.out.other (t:=36) K.out.As (by decide) (by decide) (by decide) _)
  ·clear z
   have ah:=Hq (fun W g=>m.out W g U.out r q);clear u o m r;have ao:(-1:Int)<0:=by decide
   go_wp2_with(first
    |with_reducible refine lL D.out.Am Az ?_
    |with_reducible refine lS (Au s q) D.out.As ?_)
   refine rT3 () (.int .i64 18) D.out.As Az ?_;exact ah.out _ (D.out.row 1 (Au s q) _ rfl).below
 ·have aq:(0:Int)≤(k:Int):=by omega
  clear y u o m;have ai:=Hq (Pn hk S fun j hj aj=>T j aj);clear S T
  go_wp2_with(first
   |with_reducible refine lL H1.out.Am Az ?_
   |with_reducible refine lS (Au s p) H1.out.As ?_)
  refine rT3 (.int .i64 (k:Int)) () H1.out.As Az ?_;exact E.out _ (H1.out.row 1 (Au s p) _ rfl).below k ai.out
def zD (d:Lg.Dk)(a:Nat):ByteArray×Int:=if d.down=true then(⟨#[]⟩,20)else(Gm d a,0)
theorem Ze (d:Lg.Dk)(b:d.down=true)(A:Option Addr)(c:Nat)(a:Nat)(B:a≤1000000)(w:World)(h:Dv w d A c):
 Cr 167 #[Dj d A c,.int .i64 (a:Int)] w (.tuple #["",.int .i64 20]):=by
 have p:=Hq (fun W (v:Bw w W)=>show Cr 203 #[Dj d A c,.int .i64 (a:Int)] W (.tuple #["",.int .i64 20]) from by
  have u:=W8 d A c (a:Int) W (h.below v);have e:Lg.Fy d (a:Int)=(⟨#[]⟩,20):=by unfold Lg.Fy;rw[if_pos b]
  rw[e]at u;exact u)
 obtain⟨L,left,down⟩:=d;simp only at b;subst b;dsimp only[Dj]at p ⊢;clear h;go_enter Tryz.func167,Tryz.ntmps167;go_upto_region 1 with fail;have f:=Hq (heap_alloc_new w (.cells #[.slice A L.length c,left,true] 28));have g:=Hq (Ag w (.cells #[.slice A L.length c,left,true] 28));obtain⟨o,m⟩:=ex (w.alloc (.cells #[.slice A L.length c,left,true] 28));rw[← m]at f g ⊢;clear m;have b:=show o.cell? ⟨w.heap.size,2,none⟩=some (.bool true)from by rw[Aa f.out];rfl
 go_upto_region 4 with fail;clear b;have j:=Hq (Ae f.out (Ag o (.cells #[.pointer none,'s'] 186)));have k:=Hq (Af g.out (Ag o (.cells #[.pointer none,'s'] 186)));generalize o.alloc (.cells #[.pointer none,'s'] 186)=W1 at j k ⊢;clear f g
 try simp only[Act.put]
 go_wp2_with fail
 go_loopw [19] (fun i wr=>i= .int .i64 0∧wr.heap[w.heap.size]? =some (.cells #[.slice A L.length c,left,true] 28 (0,0))∧Bw w wr) (fun i _=>4-(intOf i).toNat)
 case atStart=>exact⟨rfl,j.out,k.out⟩
 case round=>
  obtain⟨rfl,n,l⟩:=hrel;have q:=Hq n;have r:=Hq l;have s:=Hq (p.out wr l);clear n l p j k;have x:IntKind.i64.wrap ((a:Int)+0)=(a:Int):=IntWalk.i64_in _ (by omega);have y:IntKind.i64.wrap (a:Int)=(a:Int):=IntWalk.i64_in _ (by omega);have z:(a:Int)+0=(a:Int):=by omega
  go_wp2_with(first
   |with_reducible refine lL q.out Ej ?_
   |(go_at_call 203;(with_reducible refine s.out.mono ?_);rintro e C ⟨rfl,t⟩))
  go_ret2;exact⟨rfl,Af r.out t⟩
theorem Vl {M:Nat}(d:Lg.Dk)(e:Pm M d)(A:Option Addr)(c:Nat)(a:Nat)(f:a+4≤M)(g:M≤100000)(w:World)(h:Dv w d A c):
 Cr 167 #[Dj d A c,.int .i64 (a:Int)] w (.tuple #[.string (zD d a).1,.int .i64 (zD d a).2]):=by
 have i:=e.len;unfold zD
 by_cases b:d.down=true
 ·rw[if_pos b]
  exact Ze d b A c a (by omega) w h
 ·rw[if_neg b]
  exact V7 d (by simpa using b) e.sz A c a (by omega) w h
theorem gR {N n B:Nat}(s:Tx.St)(p:SP)(fs:List Fr)(I:Wf N n B s fs)(pg:Nat)(hp:pg<n)(w:World)(h:Dv w s.Ai p.A p.c):
 Cr 121 #[Ar s p,.int .i64 (pg:Int)] w (.tuple #[.string (D7 s (pg:Int)).1,.int .i64 (D7 s (pg:Int)).2]):=by
 have M:=I.n1;have O:F9 s (pg:Int)=1+N+4*pg:=by unfold F9;rw[I.zl];omega
 have D:=Hq (fun W=>Sr s p N pg I.zl M.2.2 (by omega) W);have k:=Hq (fun W (hb:Bw w W)=>Vl s.Ai I.dk p.A p.c (1+N+4*pg) (by omega) (by omega) W (h.below hb));have o:(Gm s.Ai (1+N+4*pg)).size≤512:=by
  have h1:=Lg.Dc (L:=(s.Ai.Ad.drop (1+N+4*pg)).take 4) (fun x hx=>I.dk.sz x (List.mem_of_mem_drop (List.mem_of_mem_take hx)));have h2:=List.length_take_le 4 (s.Ai.Ad.drop (1+N+4*pg))
  show(Lg.flat _).toArray.size≤512
  rw[List.size_toArray];omega
 have T:(s.Ai.down=true∧zD s.Ai (1+N+4*pg)=(⟨#[]⟩,20)∧D7 s (pg:Int)=(⟨#[]⟩,20))∨(s.Ai.down=false∧zD s.Ai (1+N+4*pg)=(Gm s.Ai (1+N+4*pg),0)∧D7 s (pg:Int)=if Gm s.Ai (1+N+4*pg)=M7 then(Gj 0,0)else if Jx (Gm s.Ai (1+N+4*pg))=true then(Lw (Gm s.Ai (1+N+4*pg)),0)else(⟨#[]⟩,19)):=by
  unfold zD D7;rw[O]
  cases hd:s.Ai.down with
  |true=>exact .inl ⟨rfl,by rw[if_pos rfl],by rw[if_pos rfl]⟩
  |false=>exact .inr ⟨rfl,by rw[if_neg (by decide)],by rw[if_neg (by decide)]⟩
 generalize Gm s.Ai (1+N+4*pg)=b at T o;generalize zD s.Ai (1+N+4*pg)=z at k T;generalize D7 s (pg:Int)=q at T ⊢;clear h I M O;generalize 1+N+4*pg=at_ at D k;obtain⟨E,z2⟩:=z;simp only at k;go_enter Tryz.func121,Tryz.ntmps121;go_upto_region 1 with fail;have r:=yB w (Au s p) 36;obtain⟨J,P⟩:=Gz r;rw[← P]at r ⊢;clear P
 go_cut [6,7] (fun x y wc=>x= .string E∧y= .int .i64 z2∧Bw J wc)
 case first=>
  have hSn:Bw J J.drew:=(Below.refl _ J).drew;refine Hw (S:=(fun u=>Bw J u)) (fun d=>?_);generalize J.drew=w9 at hSn ⊢;refine Be 0 ?_;refine yA 1 (some 10) (v:=.agg #[.slice p.A s.Ai.Ad.length p.c,s.Ai.left,s.Ai.down]) rfl (yieldsIf_load_mid (by rfl) 28 (.tmp 9) rfl w.heap.size 3 (by rfl) [.slice p.A s.Ai.Ad.length p.c,.int .i64 s.Ai.left,.bool s.Ai.down] _ (fun u V j v U=>by rw[Aa (Ae r.out.Am V)];rcases j with _|_|_|j<;>simp at U ⊢<;>exact U) Ej Kr Kr) ?_
  try simp only[Act.put,pS]
  refine yA 2 (some 11) (v:=.agg (Au s p)) rfl (yieldsIf_load_mid (by rfl) 36 (.tmp 2) rfl w.heap.size 0 (by rfl) (Au s p).toList _ (fun u V=>(by intro j v U;rw[Nat.zero_add,Aa (Ae r.out.Am V)];simpa using U)) Az Kr Kr) ?_
  try simp only[Act.put,pS]
  refine Be 3 ?_;refine D3 4 fun K Q=>?_
  go_simp
  (refine(D.out _).mono ?_);rintro e w4 ⟨rfl,F⟩;have l:=Af hSn F;clear hSn;have hSn:=l;clear l
  refine Db Q (fun d=>?_);clear Q K;refine D3 5 fun K Q=>?_
  go_simp
  (refine(k.out _ (r.out.below.trans (hSn.mono r.out.below.size))).mono ?_);rintro e w5 ⟨rfl,X⟩;have l:=Af hSn X;clear hSn;have hSn:=l;clear l
  refine Db Q (fun d=>?_);clear Q K;refine Be 6 ?_;refine Be 7 ?_;refine Be 8 ?_;refine Be 9 ?_;refine Be 10 ?_;refine wpAnyH_done Kr ?_ _;clear d;go_wp2_with fail;go_meet
  case rel=>exact⟨rfl,rfl,hSn⟩
 case rest=>
  obtain⟨rfl,rfl,R⟩:=hcut;obtain⟨w1,rfl⟩:=ex wc;have a:=Hq (r.out.below.trans (R.mono r.out.below.size));clear R r D k;rcases T with⟨_,Y,t⟩|⟨_,Y,t⟩
  ·injection Y with G H
   subst G H;subst t;clear o;go_wp2_with fail;go_ret2;exact⟨rfl,a.out⟩
  ·injection Y with G H
   subst G H;have a8:∀ W:World,(Instr.makeSlice 141 (.int .i64 512) (.int .i64 512)).run Tryz.prog W= .ok (.slice (some ⟨W.heap.size,0,none⟩) 512 512) (W.alloc (.cells (madeCells #[Value.int .u8 0] 512) 5)):=fun W=>R9 512 (by omega) W;have Z:=Sa 512;rw[show(⟨(List.replicate 512 0).toArray⟩:ByteArray)=M7 from rfl]at Z;have f:=Ag w1 (.cells (madeCells #[Value.int .u8 0] 512) 5)
   by_cases g:E=M7
   ·rw[if_pos g]at t
    subst t;have a1:(E.toList==M7.toList)=true:=(by rw[g];exact beq_self_eq_true _);have a6:=Hq (fun W=>uM 0 W);clear g
    go_wp2_with(go_at_call 168;refine(a6.out _).mono ?_;rintro e w2 ⟨rfl,m⟩)
    go_ret2;exact⟨rfl,a.out.trans ((f.mono a.out.size).trans (m.mono (Nat.le_trans a.out.size f.size)))⟩
   ·rw[if_neg g]at t
    have a1:(E.toList==M7.toList)=false:=by
     rw[beq_eq_false_iff_ne];intro h;rw[ByteArray.toList_eq,ByteArray.toList_eq]at h;exact g (ByteArray.ext (Array.toList_inj.1 h))
    have C:=Hq (fun W=>eU E (by omega) W);clear g
    cases i:Jx E with
    |true=>
     rw[i,if_pos rfl]at t;rw[i]at C;subst t;have a7:=Hq (fun W=>Xh E (by omega) W);clear i o
     go_wp2_with(first
      |(go_at_call 169;refine(C.out _).mono ?_;rintro e w2 ⟨rfl,m⟩)
      |(go_at_call 120;refine(a7.out _).mono ?_;rintro e w3 ⟨rfl,F⟩))
     go_ret2;exact⟨rfl,a.out.trans ((f.mono a.out.size).trans ((Af m F).mono (Nat.le_trans a.out.size f.size)))⟩
    |false=>
     rw[i,if_neg (by decide)]at t;rw[i]at C;subst t;clear i o
     go_wp2_with(go_at_call 169;refine(C.out _).mono ?_;rintro e w2 ⟨rfl,m⟩)
     go_ret2;exact⟨rfl,a.out.trans ((f.mono a.out.size).trans (m.mono (Nat.le_trans a.out.size f.size)))⟩
def Su (x:Px×Nat)(w:World)(e:Ending)(w':World):Prop:=∃ q:SP,e= .returned (.tuple #[Ar x.1.s q,.int .i64 (x.2:Int),x.1.e])∧Ba w' x.1.s q x.1.fs∧Bw w w'
theorem kG {N n B:Nat}{s:Tx.St}{fs:List Fr}(h:Wf N n B s fs):(Bc s fs).1.fs.length≤100∧(Bc s fs).2<(Bc s fs).1.fs.length:=by
 obtain⟨a,b,c⟩:=h.room;have:=h.nf;omega
theorem M0 {N n B:Nat}(s:Tx.St)(p:SP)(fs:List Fr)(hW:Wf N n B s fs)(hB:B≤1000000)(pg:Int)(w:World)(h:Ba w s p fs):
 Cq 67 #[Ar s p,pg] w (Su (Ao s fs pg) w):=by
 have ag:=hW.nf;have ah:fs.length≤100:=by omega
 have ai:=hW.zp;have L:=Hq (fun W=>Ny s p n hW.zp pg W);obtain⟨X,hX⟩:=ex (Ao s fs pg);rw[← hX]
 by_cases O:0≤pg∧pg<(n:Int)
 ·rw[decide_eq_true O]at L
  obtain⟨o,rfl⟩:∃ o:Nat,pg=(o:Int):=⟨pg.toNat,by omega⟩;have hh:Im s (o:Int):=⟨O.1,by omega⟩;have aj:=Hq (fun W (v:Bw w W)=>Qp s p fs (by omega) (o:Int) W (h.below v));have P:=Hq (fun W (v:Bw w W)=>gR s p fs hW o (by omega) W (h.st.dk.below v));have E:=Hq (fun W (v:Bw w W)=>Vk s p fs hW hB W (h.below v));have a1:=Hq (fun k hk f W (v:Bw w W)=>Ht s p fs ah k hk f W (h.below v));have ax:=Hq h.fn;have HP:=Hq h;have a6:=kG hW;have aa:=Hq (fun k (ha:Oz fs (o:Int)=some k) (hk:k<fs.length) w' (q:SP) (hp:Ba w' s q (fs.set k {fs[k]with mark:=true})) (v:Bw w w')=>show Su X w (.returned (.tuple #[Ar s q,.int .i64 (k:Int),()])) w' from by
   have e:X=(⟨s,fs.set k {fs[k]with mark:=true},0⟩,k):=(by rw[hX];unfold Ao;rw[if_neg (fun D=>D hh),ha];simp only;rw[Bh hk]);rw[e];exact⟨q,rfl,hp,v⟩)
  have G:=Hq (fun(ha:Oz fs (o:Int)=none) (hl:¬ (D7 s (o:Int)).2=0) w' (v:Bw w w')=>show Su X w (.returned (.tuple #[Ar s p,(),.int .i64 (D7 s (o:Int)).2])) w' from by
   have e:X=(⟨s,fs,(D7 s (o:Int)).2⟩,0):=(by rw[hX];unfold Ao;rw[if_neg (fun D=>D hh),ha];simp only;rw[if_pos hl]);rw[e];exact⟨p,rfl,h.below v,v⟩)
  have a:=Hq (fun(ha:Oz fs (o:Int)=none) (hl:(D7 s (o:Int)).2=0) (hr:¬ (Bc s fs).1.e=0) w' (q:SP) (hp:Ba w' (Dz s fs (Bc s fs).1).s q (Dz s fs (Bc s fs).1).fs) (v:Bw w w')=>show Su X w (.returned (.tuple #[Ar (Dz s fs (Bc s fs).1).s q,(),.int .i64 (Bc s fs).1.e])) w' from by
   have e:X=(Dz s fs (Bc s fs).1,0):=(by rw[hX];unfold Ao;rw[if_neg (fun D=>D hh),ha];simp only;rw[if_neg (fun D=>D hl),if_neg hr]);have e2:(Bc s fs).1.e=(Dz s fs (Bc s fs).1).e:=(by unfold Dz;split<;>rfl);rw[e,e2];exact⟨q,rfl,hp,v⟩)
  have x:=Hq (fun(ha:Oz fs (o:Int)=none) (hl:(D7 s (o:Int)).2=0) (hr:(Bc s fs).1.e=0) w' (q:SP) (hp:Ba w' (Bc s fs).1.s q ((Bc s fs).1.fs.set (Bc s fs).2 ⟨(o:Int),(D7 s (o:Int)).1,0,true,0⟩)) (v:Bw w w')=>show Su X w (.returned (.tuple #[Ar (Bc s fs).1.s q,.int .i64 ((Bc s fs).2:Int),()])) w' from by
   have e:X=(⟨(Bc s fs).1.s,(Bc s fs).1.fs.set (Bc s fs).2 ⟨(o:Int),(D7 s (o:Int)).1,0,true,0⟩,0⟩,(Bc s fs).2):=(by rw[hX];unfold Ao;rw[if_neg (fun D=>D hh),ha];simp only;rw[if_neg (fun D=>D hl),if_pos hr]);rw[e];exact⟨q,rfl,hp,v⟩)
  clear hX hW hh;generalize Su X w=Q at aa G a x ⊢;generalize D7 s (o:Int)=l at P G a x;obtain⟨lb,le⟩:=l;simp only at P G a x;have c:=Hq (show Dz s fs (Bc s fs).1=if(Bc s fs).1.e=0∨(Bc s fs).1.e=20 then(Bc s fs).1 else⟨s,fs,(Bc s fs).1.e⟩from rfl);generalize Dz s fs (Bc s fs).1=bk at a c;generalize Bc s fs=r at E a x a6 c;obtain⟨⟨xs,ak,Y⟩,xk⟩:=r;simp only at E a x a6 c;clear h ag ai;go_enter Tryz.func67,Tryz.ntmps67;go_upto_region 1 with fail;have Z:=O2 w (Au s p) 36 #[(),(),(),'s',(),false,(),(),(),(),"",'s',(),'s',()] 36;obtain⟨W0,R⟩:=Gz Z;rw[← R]at Z ⊢;clear R
  go_upto_region 3 with(first|with_reducible refine lL Z.out.Am Az ?_|(go_at_call 65;refine(L.out _).mono ?_;rintro e w1 ⟨rfl,a7⟩;have H1:=Hq (Z.out.step a7)))
  go_upto_region 4 with(first|with_reducible refine lL H1.out.Am Az ?_|(go_at_call 19;refine(aj.out _ H1.out.below).mono ?_;rintro e w2 ⟨kk,rfl,hq,an⟩;have H2:=Hq (H1.out.step an)))
  clear a7 an Z H1 L aj;rcases hq with⟨rfl,hq⟩|⟨k,hk,rfl,ao,aq⟩
  ·have bc:¬ (0:Int)≤-1:=by decide
   have z:=Hq (Nz hq);clear hq a1 aa
   go_upto_region 9 with(first|with_reducible refine lL H2.out.Am Az ?_|(go_at_call 121;refine(P.out _ H2.out.below).mono ?_;rintro e w3 ⟨rfl,ar⟩;have H3:=Hq (H2.out.step ar)))
   clear ar H2 P
   by_cases H:le=0
   ·have ay:(le != 0)=false:=by rw[H];rfl
    have S:=Hq H;clear H G
    go_upto_region 12 with(first
     |with_reducible refine lL H3.out.Am Az ?_
     |(go_at_call 119;refine(E.out _ H3.out.below).mono ?_;rintro e w4 ⟨q,rfl,au,ad⟩)
     |with_reducible refine sN (Au xs q) ?_)
    have T:=ad.trans ((Ag w4 (.cells (Au xs q) 36)).mono ad.size);have H5:=Hq (H3.out.step T);have d:=Hq (heap_alloc_new w4 (.cells (Au xs q) 36));have I:=Hq (fun hx=>(au hx).below (Ag w4 (.cells (Au xs q) 36)));obtain⟨g,hg⟩:=ex w4.heap.size;obtain⟨w5,y⟩:=ex (w4.alloc (.cells (Au xs q) 36));rw[← hg,← y]at d;rw[← y]at H5 I;rw[← y,← hg];clear y hg ad T H3 E au
    try simp only[Act.put]
    by_cases m:Y=0
    ·have az:(Y != 0)=false:=by rw[m];rfl
     have a8:=Hq m;have ae:=Hq (I.out (.inl m));clear m I a c;have a1:=Hq (show ∀ W,Ba W xs q ak→_ from fun W hp=>Ht xs q ak a6.1 xk a6.2 ⟨(o:Int),lb,0,true,0⟩ W hp)
     go_wp2_with(first
      |with_reducible refine lL d.out Az ?_
      |(go_at_call 75;refine(a1.out _ ae.out).mono ?_;rintro e w6 ⟨q6,rfl,b0,J⟩;have u:=Hq (H5.out.step J))
      |with_reducible refine lS (Au xs q6) u.out.As ?_)
     refine rT3 (.int .i64 (xk:Int)) () u.out.As Az ?_;exact x.out z.out S.out a8.out _ q6 (b0.other (t:=36) u.out.As (by decide) (by decide) (by decide) _) (u.out.row 1 (Au xs q6) _ rfl).below
    ·have az:(Y != 0)=true:=by rw[bne_iff_ne];exact m
     have a8:=Hq m;clear x
     by_cases A:Y=20
     ·have af:=Hq (fun W=>show Cr 81 #[Ar s p,Ar xs q,Y] W (Ar xs q) from by
       have h0:=Gn s p xs q Y W;rw[if_pos (.inr A)]at h0;exact h0)
      have ae:=Hq (I.out (.inr A));have U:=c.out;rw[if_pos (.inr A)]at U;subst U;clear m A I c
      go_wp2_with(first
       |with_reducible refine lL H5.out.Am Az ?_
       |with_reducible refine lL d.out Az ?_
       |(go_at_call 81;refine(af.out _).mono ?_;rintro e w6 ⟨rfl,J⟩;have u:=Hq (H5.out.step J))
       |with_reducible refine lS (Au xs q) u.out.As ?_)
      refine rT3 () Y u.out.As Az ?_;exact a.out z.out S.out a8.out _ q ((ae.out.below J).other (t:=36) u.out.As (by decide) (by decide) (by decide) _) (u.out.row 1 (Au xs q) _ rfl).below
     ·have af:=Hq (fun W=>show Cr 81 #[Ar s p,Ar xs q,Y] W (Ar s p) from by
       have h0:=Gn s p xs q Y W;rw[if_neg (fun h=>h.elim m A)]at h0;exact h0)
      have U:=c.out;rw[if_neg (fun h=>h.elim m A)]at U;subst U;clear m A I c
      go_wp2_with(first
       |with_reducible refine lL H5.out.Am Az ?_
       |with_reducible refine lL d.out Az ?_
       |(go_at_call 81;refine(af.out _).mono ?_;rintro e w6 ⟨rfl,J⟩;have u:=Hq (H5.out.step J))
       |with_reducible refine lS (Au s p) u.out.As ?_)
      refine rT3 () Y u.out.As Az ?_;exact a.out z.out S.out a8.out _ p ((HP.out.below u.out.below).other (t:=36) u.out.As (by decide) (by decide) (by decide) _) (u.out.row 1 (Au s p) _ rfl).below
   ·have ay:(le != 0)=true:=by rw[bne_iff_ne];exact H
    have S:=Hq H;clear H a x E c
    go_wp2_with(first|with_reducible refine lL H3.out.Am Az ?_|with_reducible refine lS (Au s p) H3.out.As ?_)
    refine rT3 () le H3.out.As Az ?_;exact G.out z.out S.out _ (H3.out.row 1 (Au s p) _ rfl).below
  ·have bd:(0:Int)≤(k:Int):=by omega
   have bf:(k:Int)<(fs.length:Int):=(by omega);have b1:=Hq (Qq hk ao fun j hj b2=>aq j b2);have hc:=show w2.cell? ⟨w.heap.size,11,none⟩=some (.slice p.F fs.length p.fc)from(by rw[Aa H2.out.Am,← ax.out];rfl);obtain⟨b,off,av,b3,b4,C⟩:=Cv E3 (HP.out.fr.below H2.out.below) hk;obtain⟨f,V⟩:=ex (fs[k]);have b5:=Hq V;rw[← V]at C;rw[av]at hc;have b6:=Hq (show w2.rangeAt b (off+k*5) (Me f)from C);clear C b3 b4 av V ao aq P E G a x c
   go_upto_region 6 with(first
    |(refine Dr Kr fun K hK=>wp_load_mid 95 (.tmp 27) rfl b (off+k*5) rfl (Me f) _ b6.out J5 Kr Kr (hK _ _ ?_))
    |with_reducible refine sN (Gc f) ?_)
   have T:=Ag w2 (.cells (Gc f) 95);have H5:=Hq (H2.out.step T);have d:=Hq (heap_alloc_new w2 (.cells (Gc f) 95));have b7:w.heap.size+1<w2.heap.size:=H2.out.lt (i:=1) (by simp);obtain⟨g,hg⟩:=ex w2.heap.size;obtain⟨w5,y⟩:=ex (w2.alloc (.cells (Gc f) 95));rw[← hg,← y]at d;rw[← y]at H5;rw[← y,← hg];rw[← hg]at b7;clear y hg T H2 hc
   try simp only[Act.put]
   have b8:=show w5.cell? ⟨g,3,none⟩=some (.bool f.mark)from(by rw[Aa d.out];rfl);have b9:=Aj d.out 3;go_upto_region 7 with fail;have aw:=Hq (show(w5.setCell ⟨g,3,none⟩ (.bool true)).heap[g]? =some (.cells (Gc {f with mark:=true}) 95 (0,0))from by have:=Cb 3 d.out (.bool true);simpa using this);have u:=Hq (H5.out.under (M:=g) (by simp;omega) ((Below.refl _ w5).setCell (p:=⟨g,3,none⟩) (Nat.le_refl _) (.bool true)));generalize w5.setCell ⟨g,3,none⟩ (.bool true)=w6 at aw u ⊢;clear b8 b9 d H5
   go_wp2_with(first
    |with_reducible refine lL u.out.Am Az ?_
    |with_reducible refine lL aw.out J5 ?_
    |(go_at_call 75;refine(a1.out k hk {f with mark:=true} _ u.out.below).mono ?_;rintro e w7 ⟨q,rfl,ba,bb⟩;have H7:=Hq (u.out.step bb))
    |with_reducible refine lS (Au s q) H7.out.As ?_)
   refine rT3 (.int .i64 (k:Int)) () H7.out.As Az ?_;have V:=b5.out;subst V;exact aa.out k b1.out hk _ q (ba.other (t:=36) H7.out.As (by decide) (by decide) (by decide) _) (H7.out.row 1 (Au s q) _ rfl).below
 ·rw[decide_eq_false O]at L
  have hh:¬ Im s pg:=fun D=>O ⟨D.1,by have:=D.2;omega⟩;have z:=Hq (fun w' (v:Bw w w')=>show Su X w (.returned (.tuple #[Ar s p,(),.int .i64 1])) w' from by
   have e:X=(⟨s,fs,1⟩,0):=(by rw[hX];unfold Ao;rw[if_pos hh]);rw[e];exact⟨p,rfl,h.below v,v⟩)
  generalize Su X w=Q at z ⊢;clear h hX hW hh O ag ai ah;go_enter Tryz.func67,Tryz.ntmps67;go_upto_region 1 with fail;have Z:=O2 w (Au s p) 36 #[(),(),(),'s',(),false,(),(),(),(),"",'s',(),'s',()] 36;obtain⟨W0,R⟩:=Gz Z;rw[← R]at Z ⊢;clear R
  go_upto_region 2 with(first|with_reducible refine lL Z.out.Am Az ?_|(go_at_call 65;refine(L.out _).mono ?_;rintro e w1 ⟨rfl,a7⟩;have H1:=Hq (Z.out.step a7)))
  go_wp2_with(first|with_reducible refine lL H1.out.Am Az ?_|with_reducible refine lS (Au s p) H1.out.As ?_)
  refine rT3 () (.int .i64 1) H1.out.As Az ?_;exact z.out _ (H1.out.row 1 (Au s p) _ rfl).below
theorem Df.lt {n:Nat}{w:World}{T:TypeId}{A:Option Addr}(h:Df n w T A):∀ ad,A=some ad→ad.block<w.heap.size:=fun ad e=>by
 obtain⟨_,cs,b,a⟩:=h ad e;exact C8 a
def M9 (x:Px×ByteArray)(w:World)(e:Ending)(w':World):Prop:=∃ q:SP,e= .returned (.tuple #[Ar x.1.s q,x.2,x.1.e])∧Ba w' x.1.s q x.1.fs∧Bw w w'
theorem Mi {N n B:Nat}(s:Tx.St)(p:SP)(fs:List Fr)(hW:Wf N n B s fs)(hB:B≤1000000)(pg:Int)(w:World)(h:Ba w s p fs):
 Cq 27 #[Ar s p,pg] w (M9 (J6 s fs pg) w):=by
 have A:=Hq (fun W (P:Bw w W)=>M0 s p fs hW hB pg W (h.below P));have E:=hW.held pg;obtain⟨X,hX⟩:=ex (J6 s fs pg);rw[← hX];have j:=Hq (fun(h0:(Ao s fs pg).1.e=0) w' (q:SP) (hp:Ba w' (Ao s fs pg).1.s q (Ao s fs pg).1.fs) (P:Bw w w')=>show M9 X w (.returned (.tuple #[Ar (Ao s fs pg).1.s q,.string (Cz (Ao s fs pg).1.fs (Ao s fs pg).2).bytes,()])) w' from by
  have e:X=((Ao s fs pg).1,(Cz (Ao s fs pg).1.fs (Ao s fs pg).2).bytes):=by rw[hX];unfold J6;rw[if_pos h0]
  rw[e,← h0];exact⟨q,rfl,hp,P⟩)
 have m:=Hq (fun(h0:¬ (Ao s fs pg).1.e=0) w' (q:SP) (hp:Ba w' (Ao s fs pg).1.s q (Ao s fs pg).1.fs) (P:Bw w w')=>show M9 X w (.returned (.tuple #[Ar (Ao s fs pg).1.s q,"",.int .i64 (Ao s fs pg).1.e])) w' from by
  have e:X=((Ao s fs pg).1,⟨#[]⟩):=by rw[hX];unfold J6;rw[if_neg h0]
  rw[e];exact⟨q,rfl,hp,P⟩)
 have ad:=hW.nf;clear hX hW h;generalize M9 X w=Q at j m ⊢;generalize Ao s fs pg=r at A j m E;obtain⟨⟨xs,c,xe⟩,F⟩:=r;simp only at A j m E;have R:F<c.length:=by omega
 have hlen:c.length≤100:=by omega
 rw[Bh R]at j;clear E ad;go_enter Tryz.func27,Tryz.ntmps27;go_upto_region 1 with fail;have G:=O2 w (Au s p) 36 #[(),(),(),'s',(),false,(),(),(),(),"",'s',(),'s',()] 36;obtain⟨W0,T⟩:=Gz G;rw[← T]at G ⊢;clear T
 go_upto_region 2 with(first
  |with_reducible refine lL G.out.Am Az ?_
  |(go_at_call 67;refine(A.out _ G.out.below).mono ?_;rintro e M ⟨q,rfl,U,C⟩)
  |with_reducible refine sN (Au xs q) ?_)
 have V:=C.trans ((Ag M (.cells (Au xs q) 36)).mono C.size);have H:=Hq (G.out.step V);have I:=Hq (heap_alloc_new M (.cells (Au xs q) 36));have k:=Hq (U.below (Ag M (.cells (Au xs q) 36)));have ae:w.heap.size+1<M.heap.size:=Nat.lt_of_lt_of_le (G.out.lt (i:=1) (by simp)) C.size;obtain⟨g,hg⟩:=ex M.heap.size;obtain⟨w5,D⟩:=ex (M.alloc (.cells (Au xs q) 36));rw[← hg,← D]at I;rw[← D]at H k;rw[← D,← hg];rw[← hg]at ae;clear D hg C V G A U
 try simp only[Act.put]
 by_cases l:xe=0
 ·have af:(xe != 0)=false:=by rw[l];rfl
  have J:=Hq l;obtain⟨b,off,L,ag,ah,o⟩:=Cv E3 k.out.fr R;have Y:=k.out.ft _ L;have Z:=o 1 (.string c[F].bytes) rfl;have d:=Hq k.out.fn;have ao:(0:Int)≤(F:Int):=by omega
  have aq:(F:Int)<(c.length:Int):=by omega
  have f:=Hq L;have a1:b≠w.heap.size+1:=fun e=>by
   obtain⟨_,cs,fr,O⟩:=Y;have h2:=H.out.As;rw[show(⟨b,off,none⟩:Addr).block=b from rfl,e,h2]at O
   injection O with O
   injection O with _ O
   exact absurd O (by decide)
  have ai:=Hq a1;generalize c[F].bytes=fb at Z j;clear l o ag ah L Y a1 m;go_upto_region 4 with fail
  go_cut [5,6] (fun x y wc=>x= .string fb∧y= .int .i64 0∧wc.heap[w.heap.size+1]? =some (.cells (Au xs q) 36 (0,0))∧Ba wc xs q c∧Bw w wc)
  case first=>
   have hSn:w5.drew.heap[g]? =some (.cells (Au xs q) 36 (0,0))∧w5.drew.cell? ⟨b,off+F*5+1,none⟩=some (.string fb):=⟨I.out,Z⟩;have H9:=H.out.drew;have a6:=k.out.below (Below.refl _ w5).drew;refine Hw (S:=(fun u=>u.heap[g]? =some (.cells (Au xs q) 36 (0,0))∧u.cell? ⟨b,off+F*5+1,none⟩=some (.string fb))) (fun z=>?_);generalize w5.drew=w9 at hSn H9 a6 ⊢;refine tkL 0 Az ?_;refine Be 1 ?_ (hy:=by
    intro u a;have hcl0:=show u.cell? ⟨g,11,none⟩=some (.slice (some ⟨b,off,none⟩) c.length q.fc)from(by rw[Aa a.1,← f.out,← d.out];rfl);have hcl1:=a.2;clear a;go_simp;(try with_reducible rfl))
   refine Be 2 ?_ (hy:=by
    intro u a;have hcl0:=show u.cell? ⟨g,11,none⟩=some (.slice (some ⟨b,off,none⟩) c.length q.fc)from(by rw[Aa a.1,← f.out,← d.out];rfl);have hcl1:=a.2;clear a;go_simp;(try with_reducible rfl))
   refine Be 3 ?_ (hy:=by
    intro u a;have hcl0:=show u.cell? ⟨g,11,none⟩=some (.slice (some ⟨b,off,none⟩) c.length q.fc)from(by rw[Aa a.1,← f.out,← d.out];rfl);have hcl1:=a.2;clear a;go_simp;(try with_reducible rfl))
   refine Be 4 ?_ (hy:=by
    intro u a;have hcl0:=show u.cell? ⟨g,11,none⟩=some (.slice (some ⟨b,off,none⟩) c.length q.fc)from(by rw[Aa a.1,← f.out,← d.out];rfl);have hcl1:=a.2;clear a;go_simp;(try with_reducible rfl))
   refine Be 5 ?_ (hy:=by
    intro u a;have hcl0:=show u.cell? ⟨g,11,none⟩=some (.slice (some ⟨b,off,none⟩) c.length q.fc)from(by rw[Aa a.1,← f.out,← d.out];rfl);have hcl1:=a.2;clear a;go_simp;(try with_reducible rfl))
   refine Be 6 ?_ (hy:=by
    intro u a;have hcl0:=show u.cell? ⟨g,11,none⟩=some (.slice (some ⟨b,off,none⟩) c.length q.fc)from(by rw[Aa a.1,← f.out,← d.out];rfl);have hcl1:=a.2;clear a;go_simp;(try with_reducible rfl))
   refine Be 7 ?_ (hy:=by
    intro u a;have hcl0:=show u.cell? ⟨g,11,none⟩=some (.slice (some ⟨b,off,none⟩) c.length q.fc)from(by rw[Aa a.1,← f.out,← d.out];rfl);have hcl1:=a.2;clear a;go_simp;(try with_reducible rfl))
   refine D3 8 fun K hK=>?_;refine Cp (by rfl) ?_;refine sW (Au xs q) H9.As ?_;have a7:=H9.row 1 (Au xs q) _ rfl;have a8:=a6.other (t:=36) H9.As (by decide) (by decide) (by decide) (Au xs q);have aa:=And.intro ((Aw _ _ (Au xs q) _ (show g≠w.heap.size+1 by omega)).trans hSn.1) (Q5 (cs:=(Au xs q)) hSn.2 H9.As ai.out);clear hSn;have hSn:=aa;clear aa;refine Db hK (fun z=>?_);clear hK K;refine Be 9 ?_ (hy:=by
    intro u a;have hcl0:=show u.cell? ⟨g,11,none⟩=some (.slice (some ⟨b,off,none⟩) c.length q.fc)from(by rw[Aa a.1,← f.out,← d.out];rfl);have hcl1:=a.2;clear a;go_simp;(try with_reducible rfl))
   refine Be 10 ?_ (hy:=by
    intro u a;have hcl0:=show u.cell? ⟨g,11,none⟩=some (.slice (some ⟨b,off,none⟩) c.length q.fc)from(by rw[Aa a.1,← f.out,← d.out];rfl);have hcl1:=a.2;clear a;go_simp;(try with_reducible rfl))
   refine wpAnyH_done Kr ?_ _;clear z;go_wp2_with fail;go_meet
   case rel=>exact⟨rfl,rfl,a7.As,a8,a7.below⟩
  case rest=>
   obtain⟨rfl,rfl,aj,ak,an⟩:=hcut;go_wp2_with fail;refine bodyPost_ret (v:=.tuple #[.agg (Au xs q),fb,()]) (V2 rfl _ _ rfl (Ge aj Az Kr Kr) rfl rfl) rfl ?_;exact j.out J.out _ q ak an
 ·have af:(xe != 0)=true:=by rw[bne_iff_ne];exact l
  have J:=Hq l;clear l j
  go_wp2_with(first|with_reducible refine lL I.out Az ?_|with_reducible refine lS (Au xs q) H.out.As ?_)
  refine rT3 "" xe H.out.As Az ?_;exact m.out J.out _ q (k.out.other (t:=36) H.out.As (by decide) (by decide) (by decide) _) (H.out.row 1 (Au xs q) _ rfl).below
theorem nN {N n B:Nat}(s:Tx.St)(p:SP)(fs:List Fr)(hW:Wf N n B s fs)(hB:B≤1000000)(pg:Int)(w:World)(h:Ba w s p fs):
 Cq 32 #[Ar s p,pg] w (Dq (Qr s fs pg) w):=by
 have u:=Hq (fun W (U:Bw w W)=>M0 s p fs hW hB pg W (h.below U));have v:=hW.held pg;obtain⟨X,hX⟩:=ex (Qr s fs pg);rw[← hX];have a:=Hq (fun(h0:(Ao s fs pg).1.e=0) w' (q:SP) (V:Ba w' (Ao s fs pg).1.s q ((Ao s fs pg).1.fs.set (Ao s fs pg).2 {Cz (Ao s fs pg).1.fs (Ao s fs pg).2 with pins:=(Cz (Ao s fs pg).1.fs (Ao s fs pg).2).pins+1})) (U:Bw w w')=>show Dq X w (.returned (.tuple #[Ar (Ao s fs pg).1.s q,()])) w' from by
  have e:X=⟨(Ao s fs pg).1.s,(Ao s fs pg).1.fs.set (Ao s fs pg).2 {Cz (Ao s fs pg).1.fs (Ao s fs pg).2 with pins:=(Cz (Ao s fs pg).1.fs (Ao s fs pg).2).pins+1},0⟩:=by rw[hX];unfold Qr;rw[if_pos h0]
  rw[e];exact⟨q,rfl,V,U⟩)
 have o:=Hq (fun(h0:¬ (Ao s fs pg).1.e=0) w' (q:SP) (V:Ba w' (Ao s fs pg).1.s q (Ao s fs pg).1.fs) (U:Bw w w')=>show Dq X w (.returned (.tuple #[Ar (Ao s fs pg).1.s q,.int .i64 (Ao s fs pg).1.e])) w' from by
  have e:X=(Ao s fs pg).1:=by rw[hX];unfold Qr;rw[if_neg h0]
  rw[e];exact⟨q,rfl,V,U⟩)
 have ah:=hW.nf;clear hX hW h;generalize Dq X w=Q at a o ⊢;generalize Ao s fs pg=r at u a o v;obtain⟨⟨xs,c,xe⟩,G⟩:=r;simp only at u a o v;have x:G<c.length:=by omega
 have hlen:c.length≤100:=by omega
 rw[Bh x]at a;have Y:=(v.1.fr G x).pn;clear v ah;obtain⟨f,y⟩:=ex (c[G]);rw[← y]at a Y;have Z:=Hq y;clear y;go_enter Tryz.func32,Tryz.ntmps32;go_upto_region 1 with fail;have I:=O2 w (Au s p) 36 #[(),(),(),'s',(),false,(),(),(),(),"",'s',(),'s',()] 36;obtain⟨W0,a1⟩:=Gz I;rw[← a1]at I ⊢;clear a1
 go_upto_region 2 with(first
  |with_reducible refine lL I.out.Am Az ?_
  |(go_at_call 67;refine(u.out _ I.out.below).mono ?_;rintro e T ⟨q,rfl,a6,z⟩)
  |with_reducible refine sN (Au xs q) ?_)
 have a7:=z.trans ((Ag T (.cells (Au xs q) 36)).mono z.size);have J:=Hq (I.out.step a7);have k:=Hq (heap_alloc_new T (.cells (Au xs q) 36));have d:=Hq (a6.below (Ag T (.cells (Au xs q) 36)));have ai:w.heap.size+1<T.heap.size:=Nat.lt_of_lt_of_le (I.out.lt (i:=1) (by simp)) z.size;obtain⟨g,hg⟩:=ex T.heap.size;obtain⟨L,A⟩:=ex (T.alloc (.cells (Au xs q) 36));rw[← hg,← A]at k;rw[← A]at J d;rw[← A,← hg];rw[← hg]at ai;clear A hg z a7 I u a6
 try simp only[Act.put]
 by_cases l:xe=0
 ·have aj:(xe != 0)=false:=by rw[l];rfl
  have O:=Hq l;have ay:(0:Int)≤(G:Int):=by omega
  have az:(G:Int)<(c.length:Int):=by omega
  have ak:IntKind.i64.wrap (f.pins+1)=f.pins+1:=IntWalk.i64_in _ (by omega);obtain⟨b,off,a8,an,ao,j⟩:=Cv E3 d.out.fr x;rw[← Z.out]at j;have hc:=show L.cell? ⟨g,11,none⟩=some (.slice (some ⟨b,off,none⟩) c.length q.fc)from(by rw[Aa k.out,← a8,← d.out.fn];rfl);have aa:=Hq (show L.rangeAt b (off+G*5) (Me f)from j);clear l j an ao a8 o
  go_upto_region 5 with(first
   |(refine Dr Kr fun K hK=>wp_load_mid 95 (.tmp 25) rfl b (off+G*5) rfl (Me f) _ aa.out J5 Kr Kr (hK _ _ ?_))
   |with_reducible refine sN (Gc f) ?_)
  have C:=Ag L (.cells (Gc f) 95);have H6:=Hq (J.out.step C);have P:=Hq (Ae k.out C);have m:=Hq (heap_alloc_new L (.cells (Gc f) 95));have R:=Hq (d.out.below C);have H:g<L.heap.size:=C8 k.out;obtain⟨g2,D⟩:=ex L.heap.size;obtain⟨S,E⟩:=ex (L.alloc (.cells (Gc f) 95));rw[← D,← E]at m;rw[← E]at H6 P R;rw[← E,← D];rw[← D]at H;have aq:=Hq (show ∀ ad,q.F=some ad→ad.block≠g2 from fun ad e=>by
   have:=d.out.ft.lt ad e;omega)
  clear E D C aa J k d hc
  try simp only[Act.put]
  have ar:=show S.cell? ⟨g2,2,none⟩=some (.int .i64 f.pins)from(by rw[Aa m.out];rfl);have au:=Aj m.out 2;go_upto_region 6 with fail;have ae:=Hq (show(S.setCell ⟨g2,2,none⟩ (.int .i64 (f.pins+1))).heap[g2]? =some (.cells (Gc {f with pins:=f.pins+1}) 95 (0,0))from by have:=Cb 2 m.out (.int .i64 (f.pins+1));simpa using this);have H7:=Hq (H6.out.under (M:=g2) (by simp;omega) ((Below.refl _ S).setCell (p:=⟨g2,2,none⟩) (Nat.le_refl _) (.int .i64 (f.pins+1))));have af:=Hq (show(S.setCell ⟨g2,2,none⟩ (.int .i64 (f.pins+1))).heap[g]? =_ from(((show Below g2 S S from⟨rfl,rfl,rfl,Nat.le_refl _,fun _ _=>rfl⟩).setCell (p:=⟨g2,2,none⟩) (Nat.le_refl _) (.int .i64 (f.pins+1))).block g H).trans P.out);have ag:=Hq (R.out.own m.out aq.out 2 (.int .i64 (f.pins+1)));have av:=Hq (fun W (V:Ba W xs q c)=>Ht xs q c hlen G x {f with pins:=f.pins+1} W V);generalize S.setCell ⟨g2,2,none⟩ (.int .i64 (f.pins+1))=w7 at ae H7 af ag ⊢;clear ar au H6 P m R Y ak
  try simp only[Act.put]
  go_wp2_with(first
   |with_reducible refine lL af.out Az ?_
   |with_reducible refine lL ae.out J5 ?_
   |(go_at_call 75;refine(av.out _ ag.out).mono ?_;rintro e w8 ⟨q8,rfl,aw,ax⟩;have H8:=Hq (H7.out.step ax))
   |with_reducible refine lS (Au xs q8) H8.out.As ?_)
  refine rT2 () H8.out.As Az ?_;have y:=Z.out;exact a.out O.out _ q8 (aw.other (t:=36) H8.out.As (by decide) (by decide) (by decide) _) (H8.out.row 1 (Au xs q8) _ rfl).below
 ·have aj:(xe != 0)=true:=by rw[bne_iff_ne];exact l
  have O:=Hq l;clear l a
  go_wp2_with(first|with_reducible refine lL k.out Az ?_|with_reducible refine lS (Au xs q) J.out.As ?_)
  refine rT2 xe J.out.As Az ?_;exact o.out O.out _ q (d.out.other (t:=36) J.out.As (by decide) (by decide) (by decide) _) (J.out.row 1 (Au xs q) _ rfl).below
theorem cV {N n B:Nat}(s:Tx.St)(p:SP)(fs:List Fr)(T:Wf N n B s fs)(hB:B≤1000000)(pg:Int)(w:World)(h:Ba w s p fs):
 Cq 33 #[Ar s p,pg] w (Dq (E7 s fs pg) w):=by
 have U:=T.nf;have V:fs.length≤100:=by omega
 have Y:=T.zp;have o:=Hq (fun W=>Ny s p n T.zp pg W);have I:=Hq (fun W (c:Bw w W)=>Qp s p fs (by omega) pg W (h.below c));have x:=Hq (fun k d f W (c:Bw w W)=>Ht s p fs V k d f W (h.below c));have J:=Hq (fun k (d:k<fs.length)=>(T.fr k d).pn);have Z:=Hq h.fn;have HP:=Hq h;obtain⟨X,L⟩:=ex (E7 s fs pg);rw[← L]
 by_cases l:0≤pg∧pg<(n:Int)
 ·rw[decide_eq_true l]at o
  have O:Im s pg:=⟨l.1,by omega⟩;have P:=Hq (fun(ha:Oz fs pg=none) w' (c:Bw w w')=>show Dq X w (.returned (.tuple #[Ar s p,.int .i64 21])) w' from by
   have e:X=⟨s,fs,21⟩:=(by rw[L];unfold E7;rw[if_neg (fun E=>E O),ha]);rw[e];exact⟨p,rfl,h.below c,c⟩)
  have y:=Hq (fun k (ha:Oz fs pg=some k) (d:k<fs.length) (h0:fs[k].pins≤0) w' (c:Bw w w')=>show Dq X w (.returned (.tuple #[Ar s p,.int .i64 21])) w' from by
   have e:X=⟨s,fs,21⟩:=(by rw[L];unfold E7;rw[if_neg (fun E=>E O),ha];simp only;rw[Bh d,if_pos h0]);rw[e];exact⟨p,rfl,h.below c,c⟩)
  have z:=Hq (fun k (ha:Oz fs pg=some k) (d:k<fs.length) (h0:¬ fs[k].pins≤0) w' (q:SP) (hp:Ba w' s q (fs.set k {fs[k]with pins:=fs[k].pins-1})) (c:Bw w w')=>show Dq X w (.returned (.tuple #[Ar s q,()])) w' from by
   have e:X=⟨s,fs.set k {fs[k]with pins:=fs[k].pins-1},0⟩:=(by rw[L];unfold E7;rw[if_neg (fun E=>E O),ha];simp only;rw[Bh d,if_neg h0]);rw[e];exact⟨q,rfl,hp,c⟩)
  clear L T O h U Y l;generalize Dq X w=Q at P y z ⊢;go_enter Tryz.func33,Tryz.ntmps33;go_upto_region 1 with fail;have v:=O2 w (Au s p) 36 #[(),(),(),'s',(),false,(),(),(),(),"",'s',(),'s',()] 36;obtain⟨W0,r⟩:=Gz v;rw[← r]at v ⊢;clear r
  go_upto_region 3 with(first|with_reducible refine lL v.out.Am Az ?_|(go_at_call 65;refine(o.out _).mono ?_;rintro e w1 ⟨rfl,A⟩;have H1:=Hq (v.out.step A)))
  go_upto_region 4 with(first|with_reducible refine lL H1.out.Am Az ?_|(go_at_call 19;refine(I.out _ H1.out.below).mono ?_;rintro e F ⟨kk,rfl,hq,a1⟩;have m:=Hq (H1.out.step a1)))
  clear A a1 v H1 o I;rcases hq with⟨rfl,hq⟩|⟨k,d,rfl,a6,a7⟩
  ·have ay:(-1:Int)<0:=by decide
   have C:=Hq (Nz hq);clear hq x y z
   go_wp2_with(first|with_reducible refine lL m.out.Am Az ?_|with_reducible refine lS (Au s p) m.out.As ?_)
   refine rT2 (.int .i64 21) m.out.As Az ?_;exact P.out C.out _ (m.out.row 1 (Au s p) _ rfl).below
  ·have az:(0:Int)≤(k:Int):=by omega
   have b0:¬ (k:Int)<0:=(by omega);have b1:(k:Int)<(fs.length:Int):=(by omega);have a8:=Hq (Qq d a6 fun j hj ag=>a7 j ag);have ah:=J.out k d;obtain⟨b,off,aa,ai,aj,a⟩:=Cv E3 (HP.out.fr.below m.out.below) d;have hc:=show F.cell? ⟨w.heap.size,11,none⟩=some (.slice (some ⟨b,off,none⟩) fs.length p.fc)from(by rw[Aa m.out.Am,← aa,← Z.out];rfl);have G:=Hq (y.out k a8.out d);have H:=Hq (z.out k a8.out d);have ak:=Hq (fun f W c=>x.out k d f W c);obtain⟨f,ad⟩:=ex (fs[k]);rw[← ad]at a ah G H;have an:=Hq (show F.rangeAt b (off+k*5) (Me f)from a);have ao:=show F.cell? ⟨b,off+k*5+2,none⟩=some (.int .i64 f.pins)from a 2 _ rfl;clear a ai aj aa a6 a7 P y z x J ad
   by_cases R:f.pins≤0
   ·have S:=Hq R
    go_wp2_with(first|with_reducible refine lL m.out.Am Az ?_|with_reducible refine lS (Au s p) m.out.As ?_)
    refine rT2 (.int .i64 21) m.out.As Az ?_;exact G.out S.out _ (m.out.row 1 (Au s p) _ rfl).below
   ·have S:=Hq R
    have aq:IntKind.i64.wrap (f.pins-1)=f.pins-1:=IntWalk.i64_in _ (by omega);go_upto_region 6 with fail;clear ao
    go_upto_region 7 with(first
     |(refine Dr Kr fun K hK=>wp_load_mid 95 (.tmp 33) rfl b (off+k*5) rfl (Me f) _ an.out J5 Kr Kr (hK _ _ ?_))
     |with_reducible refine sN (Gc f) ?_)
    have ae:=Ag F (.cells (Gc f) 95);have H5:=Hq (m.out.step ae);have u:=Hq (heap_alloc_new F (.cells (Gc f) 95));have ar:w.heap.size+1<F.heap.size:=m.out.lt (i:=1) (by simp);obtain⟨g,hg⟩:=ex F.heap.size;obtain⟨w5,D⟩:=ex (F.alloc (.cells (Gc f) 95));rw[← hg,← D]at u;rw[← D]at H5;rw[← D,← hg];rw[← hg]at ar;clear D hg ae m hc
    try simp only[Act.put]
    have au:=show w5.cell? ⟨g,2,none⟩=some (.int .i64 f.pins)from(by rw[Aa u.out];rfl);have av:=Aj u.out 2;go_upto_region 8 with fail;have af:=Hq (show(w5.setCell ⟨g,2,none⟩ (.int .i64 (f.pins-1))).heap[g]? =some (.cells (Gc {f with pins:=f.pins-1}) 95 (0,0))from by have:=Cb 2 u.out (.int .i64 (f.pins-1));simpa using this);have H6:=Hq (H5.out.under (M:=g) (by simp;omega) ((Below.refl _ w5).setCell (p:=⟨g,2,none⟩) (Nat.le_refl _) (.int .i64 (f.pins-1))));generalize w5.setCell ⟨g,2,none⟩ (.int .i64 (f.pins-1))=w6 at af H6 ⊢;clear au av u H5 aq R
    go_wp2_with(first
     |with_reducible refine lL H6.out.Am Az ?_
     |with_reducible refine lL af.out J5 ?_
     |(go_at_call 75;refine(ak.out {f with pins:=f.pins-1} _ H6.out.below).mono ?_;rintro e w7 ⟨q,rfl,aw,ax⟩;have H7:=Hq (H6.out.step ax))
     |with_reducible refine lS (Au s q) H7.out.As ?_)
    refine rT2 () H7.out.As Az ?_;exact H.out S.out _ q (aw.other (t:=36) H7.out.As (by decide) (by decide) (by decide) _) (H7.out.row 1 (Au s q) _ rfl).below
 ·rw[decide_eq_false l]at o
  have O:¬ Im s pg:=fun E=>l ⟨E.1,by have:=E.2;omega⟩;have C:=Hq (fun w' (c:Bw w w')=>show Dq X w (.returned (.tuple #[Ar s p,.int .i64 1])) w' from by
   have e:X=⟨s,fs,1⟩:=(by rw[L];unfold E7;rw[if_pos O]);rw[e];exact⟨p,rfl,h.below c,c⟩)
  generalize Dq X w=Q at C ⊢;clear h L T O l U Y V I x J Z HP;go_enter Tryz.func33,Tryz.ntmps33;go_upto_region 1 with fail;have v:=O2 w (Au s p) 36 #[(),(),(),'s',(),false,(),(),(),(),"",'s',(),'s',()] 36;obtain⟨W0,r⟩:=Gz v;rw[← r]at v ⊢;clear r
  go_upto_region 2 with(first|with_reducible refine lL v.out.Am Az ?_|(go_at_call 65;refine(o.out _).mono ?_;rintro e w1 ⟨rfl,A⟩;have H1:=Hq (v.out.step A)))
  go_wp2_with(first|with_reducible refine lL H1.out.Am Az ?_|with_reducible refine lS (Au s p) H1.out.As ?_)
  refine rT2 (.int .i64 1) H1.out.As Az ?_;exact C.out _ (H1.out.row 1 (Au s p) _ rfl).below
end Go.Proofs.YtdfkambdagoojaaGreatDoor
