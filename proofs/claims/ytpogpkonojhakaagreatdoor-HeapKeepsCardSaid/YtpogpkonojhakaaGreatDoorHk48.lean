import Derived.Test.YtpogpkonojhakaaGreatDoorHk00
import Derived.Test.YtpogpkonojhakaaGreatDoorHk47
import Derived.BigRegion
import Derived.Deep.RegionWith
set_option maxRecDepth 100000
set_option maxHeartbeats 16000000
set_option linter.unusedSimpArgs false
namespace Lg
theorem aJ {d:Dk}{a:Int}{b:ByteArray}(h: -9223372036854775808≤d.left∧d.left≤9223372036854775807): -9223372036854775808≤(C8 d a b).1.left∧(C8 d a b).1.left≤9223372036854775807:=by
 unfold C8
 split
 ·exact h
 split
 ·exact h
 split
 ·exact h
 ·show _≤(if 0<d.left then d.left-1 else d.left)∧(if 0<d.left then d.left-1 else d.left)≤_
  split<;>omega
theorem dS {d:Dk}{a:Int}{b:ByteArray}:(C8 d a b).1.sectors.length=d.sectors.length:=by
 unfold C8
 split
 ·rfl
 split
 ·rfl
 split
 ·rfl
 ·simp
theorem kH {base:Int}{all:List ByteArray}{k:Nat}{d d2:Dk}(a:C8 d (base+(k:Int)) (all[k]?.getD ⟨#[]⟩)=(d2,0)):Cp base all (k+1) d=Cp base all k d2:=by
 conv=>lhs;unfold Cp
 rw[a,if_pos rfl]
theorem aK {base:Int}{all:List ByteArray}{k:Nat}{d d2:Dk}{e:Int}(a:e≠0)(b:C8 d (base+(k:Int)) (all[k]?.getD ⟨#[]⟩)=(d2,e)):Cp base all (k+1) d=(d2,e):=by
 unfold Cp;rw[b,if_neg a]
theorem dT {d:Dk}{l:Lo}(h:l.safe=l.end_):Bf d l=(d,l,0):=by unfold Bf;rw[if_pos h]
theorem dU {d d2:Dk}{l:Lo}{e:Int}(h:¬ l.safe=l.end_)(a:e≠0)(b:Cp (l.from_+Fl l) (Gp l) (Gp l).length d=(d2,e)):Bf d l=(d2,l,e):=by
 unfold Bf;rw[if_neg h];simp only[b];rw[if_neg a]
theorem kI {d d2:Dk}{l:Lo}(h:¬ l.safe=l.end_)(a:Cp (l.from_+Fl l) (Gp l) (Gp l).length d=(d2,0)):Bf d l=(d2,J0 l,0):=by
 unfold Bf;rw[if_neg h];simp only[a];rw[if_pos trivial]
theorem pM (l:Lo):(Gp l).length≤l.tail.size/128+2:=by
 unfold Gp;have:=Jz l.tail
 split
 ·rw[List.length_append,List.length_singleton];omega
 ·omega
end Lg
namespace Go.Proofs.YtpogpkonojhakaaGreatDoor
open Go.RowKit
def Ks (x:Lg.Dk×Lg.Lo×Int)(A:Option Addr)(w:World)(e:Ending)(w':World):Prop:=
 ∃ A' c',e= .returned (.tuple #[Dx x.1 A' c',Nn x.2.1,x.2.2])∧Dd w' x.1 A' c'∧(A'=A∨De w.heap.size w' 9 A')∧Bw w w'
theorem dV (L:List ByteArray)(left:Int)(down:Bool)(A:Option Addr)(c:Nat)(fr n en:Int)(b:ByteArray)(o:Lg.Dk×Lg.Lo×Int)(p:o=(⟨L,left,down⟩,⟨fr,n,en,en,b⟩,0))(w:World)(h:Dd w ⟨L,left,down⟩ A c):
 Cq 252 #[.agg #[.slice A L.length c,left,down],.agg #[fr,n,en,en,b]] w (Ks o A w):=by
 have r:=Hq (fun w' (q:Bw w w')=>show Ks o A w (.returned (.tuple #[.agg #[.slice A L.length c,left,down],.agg #[fr,n,en,en,b],()])) w' from by
  subst p;exact⟨A,c,rfl,⟨h.secs.below q,h.small⟩,.inl rfl,q⟩)
 have d:(en==en)=true:=by simp
 clear p h;go_enter Tryz.func252,Tryz.ntmps252;go_upto_region 1 with fail;have i:=yN w #[.slice A L.length c,left,down] 28 #[fr,n,en,en,b] 30 #['s',(),false] 28 #[(),(),(),(),""] 30;have l:((((w.alloc (.cells #[.slice A L.length c,left,down] 28)).alloc (.cells #[fr,n,en,en,b] 30)).alloc (.cells #['s',(),false] 28)).alloc (.cells #[(),(),(),(),""] 30)).heap.size=w.heap.size+4:=by simp
 obtain⟨s,e⟩:=E2 i;rw[← e]at i l ⊢;clear e;have m:=Aa i.out.Ar;go_upto_region 2 with fail;clear m d;have j:=Hq i.out.drew;refine Gs (S:=(fun u=>u.heap[w.heap.size]? =some (.cells #[.slice A L.length c,left,down] 28 (0,0))∧u.heap[w.heap.size+1]? =some (.cells #[fr,n,en,en,b] 30 (0,0)))) (fun a=>?_) ⟨(j.out.An),(j.out.Ar)⟩;refine Aw 0 ?_;refine Aw 1 ?_;refine Cz 2 fun K f=>?_;refine Bh (by rfl) ?_;refine sW #[.slice A L.length c,left,down] j.out.Bj ?_;have k:=Hq (j.out.row 2 #[.slice A L.length c,left,down] _ rfl);have hSn:=And.intro (k.out.An) (k.out.Ar);refine Ct f (fun a=>?_);clear f K
 try simp only[Act.put]
 refine Cz 3 fun K f=>?_;refine Bh (by rfl) ?_;refine sW #[fr,n,en,en,b] k.out.g3 ?_;have g:=Hq (k.out.row 3 #[fr,n,en,en,b] _ rfl);clear hSn;have hSn:=And.intro (g.out.An) (g.out.Ar);refine Ct f (fun a=>?_);clear f K
 try simp only[Act.put]
 refine Aw 4 ?_;refine wpAnyH_done Kr ?_ _;clear a hSn;go_wp2_with fail;refine bodyPost_ret (v:=.tuple #[.agg #[.slice A L.length c,left,down],.agg #[fr,n,en,en,b],()]) (Ex rfl _ _ rfl rfl (Ch g.out.Bj Fz Kr Kr) (Ch g.out.g3 Jk Kr Kr) rfl) rfl ?_;exact r.out _ g.out.below
theorem pN (d:Lg.Dk)(cf: -9223372036854775808≤d.left∧d.left≤9223372036854775807)(A:Option Addr)(c:Nat)(fr n en G:Int)(a:ByteArray)(b2:¬ G=en)(eh:0≤en)(dr:en≤1000000000)(_hn0: -1000000000≤n)(_hn1:n≤1000000000)(ei: -1000000000≤fr)(ej:fr≤1000000000)(ht:a.size≤1000000)(ek:(a.size:Int)≤en)(cg:en%128≤(a.size:Int))(w:World)(h:Dd w d A c):
 Cq 252 #[.agg #[.slice A d.sectors.length c,d.left,d.down],.agg #[fr,n,en,G,a]] w (Ks (Lg.Bf d ⟨fr,n,en,G,a⟩) A w):=by
 have af:=Hq (fun d2 e (he:e≠0) hp=> @Lg.dU d d2 ⟨fr,n,en,G,a⟩ e b2 he hp);have ag:=Hq (fun d2 hp=> @Lg.kI d d2 ⟨fr,n,en,G,a⟩ b2 hp);have HO:=Hq (fun A' c' w' x (hx:Lg.Bf d ⟨fr,n,en,G,a⟩=x) (h1:Dd w' x.1 A' c') (h2:A'=A∨De w.heap.size w' 9 A') (h3:Bw w w')=>show Ks (Lg.Bf d ⟨fr,n,en,G,a⟩) A w (.returned (.tuple #[Dx x.1 A' c',Nn x.2.1,x.2.2])) w' from⟨A',c',by rw[hx],by rw[hx];exact h1,h2,h3⟩);have bn:=Lg.pM ⟨fr,n,en,G,a⟩;have cj:=Lg.Jz a;have ah:=Hq (fun W=>sR a ht W);obtain⟨C,hC⟩:=ex (Lg.Iq a);obtain⟨all,ai⟩:=ex (Lg.Gp ⟨fr,n,en,G,a⟩);have L:=Hq (show all=if(en-(a.size:Int))/128+(C.length:Int)<n then C++[Lg.Da]else C from by rw[ai,hC];rfl);rw[← ai]at af ag bn;rw[← hC]at ah cj;have aj:Lg.Fl ⟨fr,n,en,G,a⟩=(en-(a.size:Int))/128:=rfl;rw[aj]at af ag;generalize Lg.Bf d ⟨fr,n,en,G,a⟩=o at af ag HO ⊢;generalize Ks o A w=Q at HO ⊢;have ak:Hid (∀ W,Cr 158 #[.string ⟨#[0]⟩,.int .i64 128] W (.string Lg.Da)):=Hq (fun W=>by
  have h1:=Tryz.strings_Repeat ⟨#[0]⟩ 128 W (by omega) (by show 1*128≤_;omega);have e:(⟨(Lib.repeatL (⟨#[0]⟩:ByteArray).data.toList 128).toArray⟩:ByteArray)=Lg.Da:=Lg.Mi 128;rw[e]at h1;exact h1)
 have bo:=Lg.I1;have ck:∀ b∈all,b.size=128:=by
  rw[L.out,hC];intro b hb
  split at hb
  ·rcases List.mem_append.1 hb with h1|h1
   ·exact Lg.M8 a b h1
   ·rw[List.mem_singleton.1 h1];exact bo
  ·exact Lg.M8 a b hb
 have ds:=Hq ck;generalize Lg.Da=z at ak L bo;have HR:=Hq h;have cm:(G==en)=false:=by simpa using b2
 have dt:C.length≤10000:=by omega
 have du:all.length≤10000:=by simp only at bn;omega
 have dv:=Hq cf;obtain⟨F,hF⟩:=ex ((en-(a.size:Int))/128:Int);have eo:0≤F:=by omega
 have ep:F≤10000000:=by omega
 have dw:0≤en-(a.size:Int):=by omega
 have dx:IntKind.i64.wrap (en-(a.size:Int))=en-(a.size:Int):=IntWalk.i64_in _ (by omega);have dy:=Hq hF;rw[← hF]at af ag L;clear h b2 hC ai bn cj aj ck bo cf;go_enter Tryz.func252,Tryz.ntmps252;go_upto_region 1 with fail;have H0:=yN w #[.slice A d.sectors.length c,d.left,d.down] 28 #[fr,n,en,G,a] 30 #['s',(),false] 28 #[(),(),(),(),""] 30;have cn:((((w.alloc (.cells #[.slice A d.sectors.length c,d.left,d.down] 28)).alloc (.cells #[fr,n,en,G,a] 30)).alloc (.cells #['s',(),false] 28)).alloc (.cells #[(),(),(),(),""] 30)).heap.size=w.heap.size+4:=by simp
 obtain⟨W0,cp⟩:=E2 H0;rw[← cp]at H0 cn ⊢;clear cp;have al:=Aa H0.out.Ar;go_upto_region 4 with fail;rw[← dy.out];clear hF dw dx cm
 go_upto_region 5 with(go_at_call 268;(with_reducible refine(ah.out _).mono ?_);rintro e w1 ⟨v8,rfl,a8,b3⟩;obtain⟨A8,c8,rfl⟩:=Ej a8;have al:=Aa ((H0.out.step b3).get 1 _ rfl))
 have H1:=Hq (H0.out.step b3);have bp:=Hq (Oo a8 (show w.heap.size+4≤W0.heap.size by omega));have bq:w.heap.size+4≤w1.heap.size:=by have:=b3.size;omega
 clear a8 b3 ah H0 cn;have dz:IntKind.i64.wrap (F+(C.length:Int))=F+(C.length:Int):=IntWalk.i64_in _ (by omega);go_upto_if 35 with fail
 go_cut [8] (fun s8 wc=>∃ A8 c8,s8= .slice A8 all.length c8∧D7 Gw 1 9 (w.heap.size+4) wc (.slice A8 all.length c8) all∧Ed w.heap.size w [(#[.slice A d.sectors.length c,d.left,d.down],28),(#[fr,n,en,G,a],30),(#['s',(),false],28),(#[(),(),(),(),""],30)] wc)
 case first=>
  by_cases bd:F+(C.length:Int)<n
  ·have an:all=C++[z]:=by rw[L.out,if_pos bd]
   have P:=Hq an;clear an
   go_wp2_with(first
    |(go_at_call 158;(with_reducible refine(ak.out _).mono ?_);rintro e w2 ⟨rfl,b4⟩;have H2:=Hq (H1.out.step b4);have e0:=Hq (Bn bp.out b4);have U:=Hq b4;clear b4)
    |(at_builtin;refine Jt Kr (.tmp 36) (.tmp 38) 26 9 Rj Mh rfl (by omega) (by omega) rfl (w.heap.size+4) _ C.length (C.flatMap Gw) rfl (Bn e0.out (Ac _ _)) w2.heap.size (Gw z) 9 rfl (heap_alloc_new w2 _) rfl (by simp[Gw,Value.oneCell']) (by omega) (by have:=U.out.size;simp;omega) ?_;intro v7 w7 ho hg hb;obtain⟨A7,c7,rfl⟩:=Ej ho;have H7:=Hq ((H2.out.step (Ac w2 (.cells #[z] 9))).under (M:=w.heap.size+4) (Nat.le_refl _) hb);have ao:=Hq (D7.push (enc:=Gw) (x:=z) ho);have b5:=Hq hg;clear ho hg hb))
   go_meet
   case rel=>
    refine⟨A7,c7,?_,?_,H7.out⟩
    ·rw[P.out,List.length_append];rfl
    ·have h7:=ao.out
     have e7:(C++[z]).length=C.length+1:=(by simp);rw[P.out,e7];exact h7
  ·have an:all=C:=by rw[L.out,if_neg bd]
   have P:=Hq an;clear an;go_wp2_with fail;go_meet
   case rel=>
    refine⟨A8,c8,?_,?_,H1.out⟩
    ·rw[P.out]
    ·rw[P.out];exact bp.out
 case rest=>
  obtain⟨A8,c8,rfl,a8,aq⟩:=hcut;obtain⟨wa,rfl⟩:=ex wc;have cq:=Hq a8;have br:=Hq aq;clear a8 aq bp H1 L ak bq dz dt;have cr:IntKind.i64.wrap ((all.length:Int)-1)=(all.length:Int)-1:=IntWalk.i64_in _ (by omega);go_wp2_with fail
  go_loopw [9] (fun i wr=>∃ (x:Int) (d2:Lg.Dk) (T:Option Addr) (c2:Nat),i= .int .i64 x∧-1≤x∧x<all.length∧Lg.Cp (fr+F) all all.length d=Lg.Cp (fr+F) all (x+1).toNat d2∧Ed w.heap.size w [(#[.slice T d2.sectors.length c2,d2.left,d2.down],28),(#[fr,n,en,G,a],30),(#['s',(),false],28),(#[(),(),(),(),""],30)] wr∧Dd wr d2 T c2∧(T=A∨De (w.heap.size+4) wr 9 T)∧(-9223372036854775808≤d2.left∧d2.left≤9223372036854775807)∧d2.sectors.length=d.sectors.length∧D7 Gw 1 9 (w.heap.size+4) wr (.slice A8 all.length c8) all) (fun i _=>(intOf i+1).toNat)
  case atStart=>exact⟨(all.length:Int)-1,d,A,c,rfl,by omega,by omega,by rw[show((all.length:Int)-1+1).toNat=all.length by omega],br.out,⟨HR.out.secs.below br.out.below,HR.out.small⟩,.inl rfl,dv.out,rfl,cq.out⟩
  case round=>
   obtain⟨x,d2,T,c2,rfl,e1,e2,bf,aq,ct,cu,bg,bh,bj⟩:=hrel;have a1:=Hq bf;have aa:=Hq aq;have ar:=Hq ct;have au:=Hq cu;have bs:=Hq bj;have bt:=Hq bh;have bk:=Hq bg;have bl:=Hq (show 0<d2.sectors.length→∀ O,T=some O→O.block<w.heap.size∨w.heap.size+4≤O.block from fun h0 O e=>by
    rcases au.out with h1|h1
    ·rw[h1]at e
     exact .inl (HR.out.secs.By (by rw[← bt.out];exact h0) O e)
    ·exact .inr (h1 O e).1)
   clear bf aq ct cu bj bh bg br cq
   by_cases h0:x= -1
   ·subst h0
    have av:=Hq (ag.out d2 (a1.out.trans rfl));clear e1 e2 cr;obtain⟨m,hm⟩:=Int.eq_ofNat_of_zero_le (show 0≤en%128 by omega);have e4:(m:Int)≤(a.size:Int):=(by omega);have e5:IntKind.i64.wrap ((a.size:Int)-(m:Int))=(a.size:Int)-(m:Int):=IntWalk.i64_in _ (by omega);have e6:(0:Int)≤(a.size:Int)-(m:Int):=(by omega);have e8:(a.size:Int)-(m:Int)≤(a.size:Int):=(by omega);have e9:((a.size:Int)-(m:Int)).toNat=a.size-m:=(by omega);have cv:=Hq (show Lg.J0 ⟨fr,n,en,G,a⟩=⟨fr,n,en,en,a.extract (a.size-m) a.size⟩from by
     unfold Lg.J0;simp only[hm,Int.toNat_natCast])
    have al:=Aa aa.out.Ar;have bu:=Ap aa.out.Ar;go_upto_region 15 with fail;have U:=Hq (show Ed w.heap.size w [(#[.slice T d2.sectors.length c2,d2.left,d2.down],28),(#[fr,n,en,en,a],30),(#['s',(),false],28),(#[(),(),(),(),""],30)] (wr.setCell ⟨w.heap.size+1,3,none⟩ (.int .i64 en))from by have h:=aa.out.set 1 3 (.int .i64 en) _ rfl;simpa using h);have aw:=Hq ((E3.refl w.heap.size (w.heap.size+4) wr).cell (w.heap.size+1) 3 (.int .i64 en) (by omega) (by omega));obtain⟨W2,cw⟩:=ex (wr.setCell ⟨w.heap.size+1,3,none⟩ (.int .i64 en));rw[← cw]at U aw ⊢;clear cw al bu;have al:=Aa U.out.Ar;have bu:=Ap U.out.Ar;go_upto_region 16 with fail;have V:=Hq (show Ed w.heap.size w [(#[.slice T d2.sectors.length c2,d2.left,d2.down],28),(#[fr,n,en,en,.string (a.extract (a.size-m) a.size)],30),(#['s',(),false],28),(#[(),(),(),(),""],30)] (W2.setCell ⟨w.heap.size+1,4,none⟩ (.string (a.extract (a.size-m) a.size)))from by have h:=U.out.set 1 4 (.string (a.extract (a.size-m) a.size)) _ rfl;simpa using h);have ax:=Hq (aw.out.cell (w.heap.size+1) 4 (.string (a.extract (a.size-m) a.size)) (by omega) (by omega));obtain⟨W3,cx⟩:=ex (W2.setCell ⟨w.heap.size+1,4,none⟩ (.string (a.extract (a.size-m) a.size)));rw[← cx]at V ax ⊢;clear cx al bu e4 e5 e6 e8 e9 hm U aw;obtain⟨ay,bm⟩:=ex (a.extract (a.size-m) a.size);rw[← bm]at V cv;clear bm cg;have HD:=Hq V.out.drew;refine Gs (S:=(fun u=>u.heap[w.heap.size]? =some (.cells #[.slice T d2.sectors.length c2,d2.left,d2.down] 28 (0,0))∧u.heap[w.heap.size+1]? =some (.cells #[fr,n,en,en,ay] 30 (0,0)))) (fun f=>?_) ⟨(HD.out.An),(HD.out.Ar)⟩;refine Aw 0 ?_;refine Aw 1 ?_;refine Cz 2 fun K B=>?_;refine Bh (by rfl) ?_;refine sW #[.slice T d2.sectors.length c2,d2.left,d2.down] HD.out.Bj ?_;have HE:=Hq (HD.out.row 2 #[.slice T d2.sectors.length c2,d2.left,d2.down] _ rfl);have hSn:=And.intro (HE.out.An) (HE.out.Ar);refine Ct B (fun f=>?_);clear B K
    try simp only[Act.put]
    refine Cz 3 fun K B=>?_;refine Bh (by rfl) ?_;refine sW #[fr,n,en,en,ay] HE.out.g3 ?_;have HG:=Hq (HE.out.row 3 #[fr,n,en,en,ay] _ rfl);clear hSn;have hSn:=And.intro (HG.out.An) (HG.out.Ar);refine Ct B (fun f=>?_);clear B K
    try simp only[Act.put]
    refine Aw 4 ?_;refine wpAnyH_done Kr ?_ _;clear f hSn;go_wp2_with fail;refine bodyPost_ret (v:=.tuple #[.agg #[.slice T d2.sectors.length c2,d2.left,d2.down],.agg #[fr,n,en,en,ay],()]) (Ex rfl _ _ rfl rfl (Ch HG.out.Bj Fz Kr Kr) (Ch HG.out.g3 Jk Kr Kr) rfl) rfl ?_;exact HO.out T c2 _ (d2,⟨fr,n,en,en,ay⟩,0) (av.out.trans (by rw[cv.out])) ⟨ar.out.secs.apart (((ax.out.drew).row _ _ (by omega) (by omega)).row _ _ (by omega) (by omega)) bl.out,ar.out.small⟩ (au.out.imp id (fun h=>(h.apart (lo:=w.heap.size) (hi:=w.heap.size+4) (((ax.out.drew).row _ _ (by omega) (by omega)).row _ _ (by omega) (by omega)) (Nat.le_refl _)).mono (by omega))) HG.out.below
   ·obtain⟨k,rfl⟩:=Int.eq_ofNat_of_zero_le (show 0≤x by omega)
    have b6:k<all.length:=(by omega);have er:(k:Int)<(all.length:Int):=(by omega);have et:(0:Int)≤(k:Int):=(by omega);obtain⟨g8,cap,hv,eu,b7,eg,I,-,-⟩:=vA bs.out b6
    injection hv with ea ev eb
    subst ea eb;rw[Td,List.getElem?_map,List.getElem?_eq_getElem b6]at I;simp only[Option.map_some]at I;have cy:=ds.out all[k] (List.getElem_mem b6);have HY:=Hq (show all[k]?.getD ⟨#[]⟩=all[k] by rw[List.getElem?_eq_getElem b6];rfl);generalize all[k]=y at I cy HY;have r:=Hq I;rw[show((k:Int)+1).toNat=k+1 by omega]at a1;have b8:=Hq (fun W hW=>Te d2 bk.out T c2 (fr+F+(k:Int)) y W hW);have a6:= @Lg.aJ d2 (fr+F+(k:Int)) y bk.out;have b9:= @Lg.dS d2 (fr+F+(k:Int)) y;rcases hx:Lg.C8 d2 (fr+F+(k:Int)) y with⟨d3,e3⟩;have bw:=Hq (fun(he:e3=0)=>Lg.kH (base:=fr+F) (all:=all) (k:=k) (d:=d2) (d2:=d3) (by rw[HY.out,hx,he]));have az:=Hq (fun(he:e3≠0)=>Lg.aK (base:=fr+F) (all:=all) (k:=k) (d:=d2) (d2:=d3) he (by rw[HY.out,hx]));rw[hx]at b8 a6 b9;simp only at a6 b9;have bx:=Hq (b9.trans bt.out);have ec:=Hq a6;clear hx a6 b9 I cy h0 cr;have bq:IntKind.i64.wrap (fr+F)=fr+F:=IntWalk.i64_in _ (by omega);have ed:IntKind.i64.wrap (fr+F+(k:Int))=fr+F+(k:Int):=IntWalk.i64_in _ (by omega);go_upto_region 10 with fail
    go_cut [10,11] (fun p q wc=>∃ (g:Nat) (l:Option Addr) (c3:Nat),p= .pointer (some ⟨g,0,none⟩)∧q= .int .i64 e3∧Ed w.heap.size w [(#[.slice T d2.sectors.length c2,d2.left,d2.down],28),(#[fr,n,en,G,a],30),(#['s',(),false],28),(#[(),(),(),(),""],30)] wc∧w.heap.size+4≤g∧wc.heap[g]? =some (.cells #[.slice l d3.sectors.length c3,d3.left,d3.down] 28 (0,0))∧Dd wc d3 l c3∧(l=A∨De (w.heap.size+4) wc 9 l)∧D7 Gw 1 9 (w.heap.size+4) wc (.slice (some ⟨g8,0,none⟩) all.length c8) all)
    case first=>
     have s:=Hq aa.out.drew;have cz:=Hq (Bn bs.out (Below.refl _ wr).drew);have da:=Hq (ar.out.below (Below.refl _ wr).drew);have ew:=aa.out.lt (i:=3) (by simp);have ey:wr.heap.size≤wr.drew.heap.size:=Nat.le_refl _;refine Gs (S:=(fun u=>u.heap[w.heap.size]? =some (.cells #[.slice T d2.sectors.length c2,d2.left,d2.down] 28 (0,0))∧u.heap[w.heap.size+1]? =some (.cells #[fr,n,en,G,a] 30 (0,0))∧u.cell? ⟨g8,k,none⟩=some (.string y))) (fun f=>?_) (by first|exact hSn|exact⟨s.out.An,s.out.Ar,r.out⟩);refine Qr 0 (some 48) (v:=?_) rfl ?_ (Qr 1 (some 49) (v:=?_) rfl ?_ (Qr 2 (some 50) (v:=?_) rfl ?_ (Qr 3 (some 51) (v:=?_) rfl ?_ (Qr 4 (some 52) (v:=?_) rfl ?_ (Qr 5 (some 53) (v:=?_) rfl ?_ (Qr 6 (some 54) (v:=?_) rfl ?_ (Qr 7 (some 55) (v:=?_) rfl ?_ (Qr 8 (some 56) (v:=?_) rfl ?_ (Qr 9 (some 57) (v:=?_) rfl ?_ (Qr 10 (some 58) (v:=?_) rfl ?_ ?_))))))))))
     iterate 11 (rotate_left;focus(intro u N;obtain⟨D,E,ba⟩:=N;have D:=Aa D;have E:=Aa E;go_simp;(try with_reducible rfl)))
     try simp only[Act.put,pS]
     refine wpAnyH_ready (rs:=[11,15]) Kr (by simp) ?_;refine(AllReadyH.cons (o:={dst:=some 59,op:=_,type:=_,pos:=_,after:=_,guard:=_}) rfl (fun K B=>?_) (AllReadyH.cons (o:={dst:=some 10,op:=_,type:=_,pos:=_,after:=_,guard:=_}) rfl (fun K B=>?_) AllReadyH.nil))
     ·
      go_simp
      refine(b8.out _ da.out).mono ?_;rintro e t ⟨l,c3,rfl,R,X,H⟩;have Y:=Hq (s.out.step H);have bb:=Hq (Bn cz.out H);have b0:=(H.cell (p:=⟨g8,k,none⟩) (by first|exact b7|(simp;omega))).trans r.out;have hSn:=And.intro Y.out.An (And.intro Y.out.Ar b0);refine Ct B (fun f=>?_) (by first|exact hSn|exact⟨s.out.An,s.out.Ar,r.out⟩);clear B K;refine Qr 12 (some 47) (v:=?_) rfl ?_ (Qr 13 (some 60) (v:=?_) rfl ?_ (Qr 14 (some 61) (v:=?_) rfl ?_ ?_))
      iterate 3 (rotate_left;focus(intro u N;obtain⟨D,E,ba⟩:=N;have D:=Aa D;have E:=Aa E;go_simp;(try with_reducible rfl)))
      try simp only[Act.put,pS]
      refine Cz 15 fun K B=>?_
      go_simp
      have bz:=Hq (Y.out.step (Ac t (.cells #['s',(),false] 28)));have db:=Hq (Bn bb.out (Ac t (.cells #['s',(),false] 28)));have dc:=R.below (Ac t (.cells #['s',(),false] 28));have dd:=((Ac t (.cells #['s',(),false] 28)).cell (p:=⟨g8,k,none⟩) (Nat.lt_of_lt_of_le b7 H.size)).trans b0;have J:=heap_alloc_new t (.cells #['s',(),false] 28);clear hSn;have hSn:=And.intro bz.out.An (And.intro bz.out.Ar dd);refine Ct B (fun f=>?_) (by first|exact hSn|exact⟨s.out.An,s.out.Ar,r.out⟩);clear B K;refine Cz 16 fun K B=>?_;refine Bh (by rfl) ?_;refine sW #[.slice l d3.sectors.length c3,d3.left,d3.down] J ?_;have ae:w.heap.size+4≤t.heap.size:=(by have:=H.size;omega);have b1:=Hq ((E3.refl t.heap.size (t.heap.size+1) (t.alloc (.cells #['s',(),false] 28))).row t.heap.size #[.slice l d3.sectors.length c3,d3.left,d3.down] (Nat.le_refl _) (Nat.lt_succ_self _));have Z:=Hq (bz.out.under (M:=t.heap.size) (by show w.heap.size+4≤_;exact ae) (show Below t.heap.size (t.alloc (.cells #['s',(),false] 28)) ((t.alloc (.cells #['s',(),false] 28)).setRow t.heap.size #[.slice l d3.sectors.length c3,d3.left,d3.down])from⟨rfl,rfl,rfl,b1.out.size,fun j hj=>Ad (t.alloc (.cells #['s',(),false] 28)) t.heap.size #[.slice l d3.sectors.length c3,d3.left,d3.down] j (by omega)⟩));have c1:Dd ((t.alloc (.cells #['s',(),false] 28)).setRow t.heap.size #[.slice l d3.sectors.length c3,d3.left,d3.down]) d3 l c3:=⟨dc.secs.apart b1.out (fun h0 O e=>.inl (R.secs.By h0 O e)),dc.small⟩;have b5:((t.alloc (.cells #['s',(),false] 28)).setRow t.heap.size #[.slice l d3.sectors.length c3,d3.left,d3.down]).heap[t.heap.size]? =some (.cells #[.slice l d3.sectors.length c3,d3.left,d3.down] 28 (0,0)):=setRow_heap _ _ _ _ _ _ J;have ao:=Y0 db.out J (by decide) #[.slice l d3.sectors.length c3,d3.left,d3.down];have c6:=(Ki (cs:=#[.slice l d3.sectors.length c3,d3.left,d3.down]) dd J (fW db.out J (by decide)));clear hSn;have hSn:=And.intro Z.out.An (And.intro Z.out.Ar c6);refine Ct B (fun f=>?_) (by first|exact hSn|exact⟨s.out.An,s.out.Ar,r.out⟩);clear B K
      try simp only[Act.put]
      refine Aw 17 ?_ (hy:=by intro u N;obtain⟨D,E,ba⟩:=N;have D:=Aa D;have E:=Aa E;go_simp;(try with_reducible rfl));refine wpAnyH_done Kr ?_ _;clear f hSn;go_wp2_with fail;go_meet
      case rel=>exact⟨_,l,c3,rfl,rfl,Z.out,ae,b5,c1,(X.elim (fun h1=>by rw[h1];exact au.out.imp id (fun h2=>(((h2.below (Below.refl _ wr).drew).below H).below (Ac t (.cells #['s',(),false] 28))).row _ _)) (fun h1=>.inr (((h1.below (Ac t (.cells #['s',(),false] 28))).row _ _).mono (by first|(simp;omega)|omega)))),ao⟩
     ·
      go_simp
      have ca:=Hq (s.out.step (Ac wr.drew (.cells #['s',(),false] 28)));have ee:=Hq (Bn cz.out (Ac wr.drew (.cells #['s',(),false] 28)));have ef:=Hq (da.out.below (Ac wr.drew (.cells #['s',(),false] 28)));have de:=Hq (((Ac wr.drew (.cells #['s',(),false] 28)).cell (p:=⟨g8,k,none⟩) b7).trans r.out);have hSn:=And.intro ca.out.An (And.intro ca.out.Ar de.out);refine Ct B (fun f=>?_) (by first|exact hSn|exact⟨s.out.An,s.out.Ar,r.out⟩);clear B K;refine Cz 11 fun K B=>?_
      go_simp
      refine(b8.out _ ef.out).mono ?_;rintro e t ⟨l,c3,rfl,R,X,H⟩;have Y:=Hq (ca.out.step H);have bb:=Hq (Bn ee.out H);have b0:=(H.cell (p:=⟨g8,k,none⟩) (by first|exact b7|(simp;omega))).trans de.out;have hSn:=And.intro Y.out.An (And.intro Y.out.Ar b0);have J:=Bs H;refine Ct B (fun f=>?_) (by first|exact hSn|exact⟨s.out.An,s.out.Ar,r.out⟩);clear B K;refine Qr 12 (some 47) (v:=?_) rfl ?_ (Qr 13 (some 60) (v:=?_) rfl ?_ (Qr 14 (some 61) (v:=?_) rfl ?_ ?_))
      iterate 3 (rotate_left;focus(intro u N;obtain⟨D,E,ba⟩:=N;have D:=Aa D;have E:=Aa E;go_simp;(try with_reducible rfl)))
      try simp only[Act.put,pS]
      refine Cz 16 fun K B=>?_;refine Bh (by rfl) ?_;refine sW #[.slice l d3.sectors.length c3,d3.left,d3.down] J ?_;have ae:w.heap.size+4≤wr.drew.heap.size:=(by omega);have b1:=Hq ((E3.refl wr.drew.heap.size (wr.drew.heap.size+1) t).row wr.drew.heap.size #[.slice l d3.sectors.length c3,d3.left,d3.down] (Nat.le_refl _) (Nat.lt_succ_self _));have Z:=Hq (Y.out.under (M:=wr.drew.heap.size) (by show w.heap.size+4≤_;exact ae) (show Below wr.drew.heap.size t (t.setRow wr.drew.heap.size #[.slice l d3.sectors.length c3,d3.left,d3.down])from⟨rfl,rfl,rfl,b1.out.size,fun j hj=>Ad t wr.drew.heap.size #[.slice l d3.sectors.length c3,d3.left,d3.down] j (by omega)⟩));have c1:Dd (t.setRow wr.drew.heap.size #[.slice l d3.sectors.length c3,d3.left,d3.down]) d3 l c3:=⟨R.secs.apart b1.out (fun h0 O e=>X.elim (fun h1=>by rw[h1]at e;have:=ar.out.secs.By (by rw[bt.out,← bx.out];exact h0) O e;left;exact this) (fun h1=>by have:=h1 O e;right;have:=this.1;simp at this ⊢;omega)),R.small⟩;have b5:(t.setRow wr.drew.heap.size #[.slice l d3.sectors.length c3,d3.left,d3.down]).heap[wr.drew.heap.size]? =some (.cells #[.slice l d3.sectors.length c3,d3.left,d3.down] 28 (0,0)):=setRow_heap _ _ _ _ _ _ J;have ao:=Y0 bb.out J (by decide) #[.slice l d3.sectors.length c3,d3.left,d3.down];have c6:=(Ki (cs:=#[.slice l d3.sectors.length c3,d3.left,d3.down]) b0 J (fW bb.out J (by decide)));clear hSn;have hSn:=And.intro Z.out.An (And.intro Z.out.Ar c6);refine Ct B (fun f=>?_) (by first|exact hSn|exact⟨s.out.An,s.out.Ar,r.out⟩);clear B K
      try simp only[Act.put]
      refine Aw 17 ?_ (hy:=by intro u N;obtain⟨D,E,ba⟩:=N;have D:=Aa D;have E:=Aa E;go_simp;(try with_reducible rfl));refine wpAnyH_done Kr ?_ _;clear f hSn;go_wp2_with fail;go_meet
      case rel=>exact⟨_,l,c3,rfl,rfl,Z.out,ae,b5,c1,(X.elim (fun h1=>by rw[h1];exact au.out.imp id (fun h2=>(((h2.below (Below.refl _ wr).drew).below (Ac wr.drew (.cells #['s',(),false] 28))).below H).row _ _)) (fun h1=>.inr ((h1.row _ _).mono (by first|(simp;omega)|omega)))),ao⟩
    case rest=>
     obtain⟨g,l,c3,rfl,rfl,df,ae,dh,R,X,di⟩:=hcut;obtain⟨wb,rfl⟩:=ex wc;have V:=Hq df;have dj:=Hq dh;have cb:=Hq R;have dk:=Hq di;have dm:=Hq X;have dn:=Hq (show 0<d3.sectors.length→∀ O,l=some O→O.block<w.heap.size∨w.heap.size+4≤O.block from fun h0 O e=>dm.out.elim (fun h1=>by rw[h1]at e;exact .inl (HR.out.secs.By (by rw[← bx.out];exact h0) O e)) (fun h1=>.inr (h1 O e).1));clear df dh R di X aa bs ar au bl b8 r bq ed
     go_upto_region 12 with(first
      |with_reducible refine lL dj.out Fz ?_
      |with_reducible refine lS #[.slice l d3.sectors.length c3,d3.left,d3.down] V.out.An ?_)
     have cc:=Hq (show Ed w.heap.size w [(#[.slice l d3.sectors.length c3,d3.left,d3.down],28),(#[fr,n,en,G,a],30),(#['s',(),false],28),(#[(),(),(),(),""],30)] (wb.setRow w.heap.size #[.slice l d3.sectors.length c3,d3.left,d3.down])from by have h:=V.out.row 0 #[.slice l d3.sectors.length c3,d3.left,d3.down] _ rfl;simpa using h);have a7:=Hq ((E3.refl w.heap.size (w.heap.size+4) wb).row w.heap.size #[.slice l d3.sectors.length c3,d3.left,d3.down] (Nat.le_refl _) (by omega));have dp:=Hq (nY dk.out (Nat.le_refl _) a7.out);have bc:=Hq (show Dd (wb.setRow w.heap.size #[.slice l d3.sectors.length c3,d3.left,d3.down]) d3 l c3 from⟨cb.out.secs.apart a7.out dn.out,cb.out.small⟩);have cd:=Hq (dm.out.imp id (fun h=>h.row w.heap.size #[.slice l d3.sectors.length c3,d3.left,d3.down]));obtain⟨W4,dq⟩:=ex (wb.setRow w.heap.size #[.slice l d3.sectors.length c3,d3.left,d3.down]);rw[← dq]at cc a7 dp bc cd ⊢;clear dq V dj cb dk a7
     by_cases he:e3=0
     ·have HG:=Hq (a1.out.trans (bw.out he))
      subst he;clear bw az;have ez:IntKind.i64.wrap ((k:Int)-1)=(k:Int)-1:=IntWalk.i64_in _ (by omega);go_wp2_with fail;go_roundw
      case rel=>exact⟨(k:Int)-1,d3,l,c3,rfl,by omega,by omega,by rw[show((k:Int)-1+1).toNat=k by omega];exact HG.out,cc.out,bc.out,cd.out,ec.out,bx.out,dp.out⟩
      case measure=>first|(simp[intOf];done)|(simp[intOf];omega)
     ·have av:=Hq (af.out d3 e3 he (a1.out.trans (az.out he)))
      have dr:(e3==0)=false:=(by simpa using he);have fa:(e3 != 0)=true:=(by simpa using he);clear bw az he;go_upto_region 13 with fail;have HD:=Hq cc.out.drew;refine Gs (S:=(fun u=>u.heap[w.heap.size]? =some (.cells #[.slice l d3.sectors.length c3,d3.left,d3.down] 28 (0,0))∧u.heap[w.heap.size+1]? =some (.cells #[fr,n,en,G,a] 30 (0,0)))) (fun f=>?_) ⟨(HD.out.An),(HD.out.Ar)⟩;refine Aw 0 ?_;refine Aw 1 ?_;refine Aw 2 ?_;refine Cz 3 fun K B=>?_;refine Bh (by rfl) ?_;refine sW #[.slice l d3.sectors.length c3,d3.left,d3.down] HD.out.Bj ?_;have HE:=Hq (HD.out.row 2 #[.slice l d3.sectors.length c3,d3.left,d3.down] _ rfl);have hSn:=And.intro (HE.out.An) (HE.out.Ar);refine Ct B (fun f=>?_);clear B K
      try simp only[Act.put]
      refine Cz 4 fun K B=>?_;refine Bh (by rfl) ?_;refine sW #[fr,n,en,G,a] HE.out.g3 ?_;have HG:=Hq (HE.out.row 3 #[fr,n,en,G,a] _ rfl);clear hSn;have hSn:=And.intro (HG.out.An) (HG.out.Ar);refine Ct B (fun f=>?_);clear B K
      try simp only[Act.put]
      refine Aw 5 ?_;refine wpAnyH_done Kr ?_ _;clear f hSn;go_wp2_with fail;refine bodyPost_ret (v:=.tuple #[.agg #[.slice l d3.sectors.length c3,d3.left,d3.down],.agg #[fr,n,en,G,a],e3]) (Ex rfl _ _ rfl rfl (Ch HG.out.Bj Fz Kr Kr) (Ch HG.out.g3 Jk Kr Kr) rfl) rfl ?_;exact HO.out l c3 _ (d3,⟨fr,n,en,G,a⟩,e3) av.out ⟨bc.out.secs.apart (((E3.refl _ _ _).drew.row _ _ (by omega) (by omega)).row _ _ (by omega) (by omega)) dn.out,bc.out.small⟩ (cd.out.imp id (fun h=>(h.apart (lo:=w.heap.size) (hi:=w.heap.size+4) (((E3.refl _ _ _).drew.row _ _ (by omega) (by omega)).row _ _ (by omega) (by omega)) (Nat.le_refl _)).mono (by omega))) HG.out.below
theorem kJ (d:Lg.Dk)(e: -9223372036854775808≤d.left∧d.left≤9223372036854775807)(A:Option Addr)(c:Nat)(l:Lg.Lo)(f:0≤l.end_)(g:l.end_≤1000000000)(i: -1000000000≤l.n)(j:l.n≤1000000000)(k: -1000000000≤l.from_)(m:l.from_≤1000000000)(t:l.tail.size≤1000000)(o:(l.tail.size:Int)≤l.end_)(a:l.end_%128≤(l.tail.size:Int))(w:World)(h:Dd w d A c):
 Cq 252 #[Dx d A c,Nn l] w (Ks (Lg.Bf d l) A w):=by
 obtain⟨q,n,r,p,s⟩:=l
 by_cases b:p=r
 ·subst b
  exact dV d.sectors d.left d.down A c q n p s _ (Lg.dT rfl) w h
 ·exact pN d e A c q n r p s b f g i j k m t o a w h
end Go.Proofs.YtpogpkonojhakaaGreatDoor
