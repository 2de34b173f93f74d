import Derived.Test.YtilakddepaplhaaGreatHm00
import Derived.Test.YtilakddepaplhaaGreatHm12
import Derived.Test.YtilakddepaplhaaGreatHm11
import Derived.Test.YtilakddepaplhaaGreatHm01
import Derived.BigRegion
set_option maxRecDepth 100000
set_option maxHeartbeats 16000000
namespace Go.Proofs.YtilakddepaplhaaGreat
open Go.RowKit
structure DkR (n:Nat) (w:World) (d:Lg.Dk) (A0 A:Option Addr) (c:Nat):Prop where
 dk:DiskR w d A c
 dt:NewT 0 w 9 A
 nw:A=A0∨NewT n w 9 A
theorem DkR.below {n:Nat}{w w':World}{d:Lg.Dk}{A0 A:Option Addr}{c:Nat}(h:DkR n w d A0 A c)(hb:Below w.heap.size w w'):DkR n w' d A0 A c:=⟨h.dk.below hb,h.dt.below hb,h.nw.imp id (fun k=>k.below hb)⟩
theorem DkR.row {n:Nat}{w:World}{d:Lg.Dk}{A0 A:Option Addr}{c:Nat}(h:DkR n w d A0 A c){b:Nat}{cur:Array Value}{t:TypeId}{fr:Nat×Nat}(hb:w.heap[b]? =some (.cells cur t fr))(h1:t≠9)(cs:Array Value):DkR n (w.setRow b cs) d A0 A c:=
 ⟨⟨h.dt.readsRow h.dk.secs hb h1 cs,h.dk.small⟩,h.dt.row b cs,h.nw.imp id (fun k=>k.row b cs)⟩
theorem DkR.set {n:Nat}{w:World}{d:Lg.Dk}{A0 A:Option Addr}{c:Nat}(h:DkR n w d A0 A c){b:Nat}{cur:Array Value}{t:TypeId}{fr:Nat×Nat}(hb:w.heap[b]? =some (.cells cur t fr))(h1:t≠9)(j:Nat)(v:Value):DkR n (w.setCell ⟨b,j,none⟩ v) d A0 A c:=by
 rw[setCell_eq_setRow w b j cur t fr v hb]
 exact h.row hb h1 _
theorem DkR.put {n:Nat}{w w':World}{d d':Lg.Dk}{A0 A A':Option Addr}{c c':Nat}(h:DkR n w d A0 A c)(hn:n≤w.heap.size)(hd:DiskR w' d' A' c')(ha:A'=A∨NewT w.heap.size w' 9 A')(hb:Below w.heap.size w w'):DkR n w' d' A0 A' c':=
 ⟨hd,ha.elim (fun e=>by rw[e];exact h.dt.below hb) (fun k=>k.mono (Nat.zero_le _)),ha.elim (fun e=>by rw[e];exact h.nw.imp id (fun k=>k.below hb)) (fun k=>.inr (k.mono hn))⟩
theorem rforce_none (d:Lg.Dk)(A:Option Addr)(c:Nat)(fr n en:Int)(tl:ByteArray)(o:Lg.Dk×Lg.Lo×Int)(ho:o=(d,⟨fr,n,en,en,tl⟩,0))(w:World)(h:DiskR w d A c):
 Calls Tryz.prog 34 #[.agg #[.slice A d.sectors.length c,d.left,d.down],.agg #[fr,n,en,en,tl]] w (ForceOut o A w):=by
 have HO:=Hq (fun w' (hb:Below w.heap.size w w')=>show ForceOut o A w (.returned (.tuple #[.agg #[.slice A d.sectors.length c,d.left,d.down],.agg #[fr,n,en,en,tl],()])) w' from by
  subst ho;exact⟨A,c,rfl,⟨h.secs.below hb,h.small⟩,.inl rfl,hb⟩)
 clear ho h
 go_enter Tryz.func34,Tryz.ntmps34
 go_upto_region 1 with fail
 have H0:=Hq (show BxL w.heap.size w [(#[.slice A d.sectors.length c,d.left,d.down],29),(#[fr,n,en,en,tl],31),(#["s",(),false],29),(#[(),(),(),(),""],31)] ((((w.alloc (.cells #[.slice A d.sectors.length c,d.left,d.down] 29)).alloc (.cells #[fr,n,en,en,tl] 31)).alloc (.cells #["s",(),false] 29)).alloc (.cells #[(),(),(),(),""] 31))from((((BxL.nil (Below.refl w.heap.size w)).new (by simp) #[.slice A d.sectors.length c,d.left,d.down] 29).new (by simp) #[fr,n,en,en,tl] 31).new (by simp) #["s",(),false] 29).new (by simp) #[(),(),(),(),""] 31)
 obtain⟨W0,hW0⟩:∃ W,W=(((w.alloc (.cells #[.slice A d.sectors.length c,d.left,d.down] 29)).alloc (.cells #[fr,n,en,en,tl] 31)).alloc (.cells #["s",(),false] 29)).alloc (.cells #[(),(),(),(),""] 31):=⟨_,rfl⟩
 rw[← hW0]at H0 ⊢
 clear hW0
 have hc1:=blkCell (H0.out.get 1 _ rfl)
 have hle:en≤en:=Int.le_refl _
 go_upto_region 2 with fail
 clear hc1 hle
 have HD:=Hq H0.out.drew
 have X0:=HD.out.get0
 have Y0:=HD.out.get1
 refine wp_region_held_drew (S:=(fun u=>u.heap[w.heap.size]? =some (.cells #[.slice A d.sectors.length c,d.left,d.down] 29 (0,0))∧u.heap[(w.heap.size+1)]? =some (.cells #[fr,n,en,en,tl] 31 (0,0)))) Kr ?_ (fun hHeld=>?_)
 ·first|exact hSn|exact⟨X0,Y0⟩
 refine tkV 0 (some 19) (v:=.agg #[.slice A d.sectors.length c,d.left,d.down]) rfl (yieldsIf_load_mid (by rfl) 29 (.tmp 2) rfl w.heap.size 0 (by rfl) #[.slice A d.sectors.length c,.int .i64 d.left,.bool d.down].toList _ (fun u hu=>(by intro j v hj;rw[Nat.zero_add,blkCell hu.1];simpa using hj)) Tryz.underlying29 Kr Kr) ?_
 try simp only[Act.put,pS]
 refine tkV 1 (some 20) (v:=.agg #[fr,n,en,en,tl]) rfl (yieldsIf_load_mid (by rfl) 31 (.tmp 3) rfl (w.heap.size+1) 0 (by rfl) #[.int .i64 fr,.int .i64 n,.int .i64 en,.int .i64 en,.string tl].toList _ (fun u hu=>(by intro j v hj;rw[Nat.zero_add,blkCell hu.2];simpa using hj)) Tryz.underlying31 Kr Kr) ?_
 try simp only[Act.put,pS]
 refine rdH 2 none rfl (fun K hK=>?_)
 refine wantedIf (by rfl) ?_
 refine wp_store_whole 29 (.tmp 4) (.tmp 19) rfl (w.heap.size+2) #[.slice A d.sectors.length c,d.left,d.down] _ _ rfl rfl (HD.out.get 2 _ rfl) Kr Kr Kr ?_
 have HE:=Hq (HD.out.row 2 #[.slice A d.sectors.length c,d.left,d.down] _ rfl)
 have X1:=HE.out.get0
 have Y1:=HE.out.get1
 have hSn:=And.intro X1 Y1
 refine hK.out _ _ ?_ (fun hHeld=>?_)
 ·first|exact hSn|exact⟨X0,Y0⟩
 clear hK K
 try simp only[Act.put]
 refine rdH 3 none rfl (fun K hK=>?_)
 refine wantedIf (by rfl) ?_
 refine wp_store_whole 31 (.tmp 5) (.tmp 20) rfl (w.heap.size+3) #[fr,n,en,en,tl] _ _ rfl rfl (HE.out.get 3 _ rfl) Kr Kr Kr ?_
 have HG:=Hq (HE.out.row 3 #[fr,n,en,en,tl] _ rfl)
 try clear hSn
 have hSn:=And.intro HG.out.get0 HG.out.get1
 refine hK.out _ _ ?_ (fun hHeld=>?_)
 ·first|exact hSn|exact⟨X0,Y0⟩
 clear hK K
 try simp only[Act.put]
 refine tkW 4 (some 6) (v:=?_) rfl ?_ ?_
 rotate_left
 ·intro u hSu;clear hSu;go_simp;(try with_reducible rfl)
 try simp only[Act.put,pS]
 refine wpAnyH_done Kr ?_ _
 clear hHeld hSn
 go_wp2_with fail
 refine bodyPost_ret (v:=.tuple #[.agg #[.slice A d.sectors.length c,d.left,d.down],.agg #[fr,n,en,en,tl],()]) (results_cells rfl _ _ rfl rfl (load_whole (HG.out.get 2 _ rfl) Tryz.underlying29 Kr Kr) (load_whole (HG.out.get 3 _ rfl) Tryz.underlying31 Kr Kr) rfl) rfl ?_
 exact HO.out _ HG.out.below
theorem rforce_go (d:Lg.Dk)(hlb: -9223372036854775808≤d.left∧d.left≤9223372036854775807)(A:Option Addr)(c:Nat)(fr n en sf:Int)(tl:ByteArray)(hse:sf<en)(hs0:0≤sf)(he1:en≤1000000000)(_hn0: -1000000000≤n)(_hn1:n≤1000000000)(hf0: -1000000000≤fr)(hf1:fr≤1000000000)(ht:tl.size≤1000000)(hal:en-(tl.size:Int)=sf-sf%128)(w:World)(h:DiskR w d A c)(hT:NewT 0 w 9 A):
 Calls Tryz.prog 34 #[.agg #[.slice A d.sectors.length c,d.left,d.down],.agg #[fr,n,en,sf,tl]] w (ForceOut (Lg.forceD d ⟨fr,n,en,sf,tl⟩) A w):=by
 have hne:¬ sf=en:=by omega
 have HST:=Hq (fun d2 e (he:e≠0) hp=> @Lg.force_stop d d2 ⟨fr,n,en,sf,tl⟩ e hne he hp)
 have HAL:=Hq (fun d2 hp=> @Lg.force_all d d2 ⟨fr,n,en,sf,tl⟩ hne hp)
 have HO:=Hq (fun A' c' w' x (hx:Lg.forceD d ⟨fr,n,en,sf,tl⟩=x) (h1:DkR w.heap.size w' x.1 A A' c') (h3:Below w.heap.size w w')=>show ForceOut (Lg.forceD d ⟨fr,n,en,sf,tl⟩) A w (.returned (.tuple #[diskV x.1 A' c',logV x.2.1,x.2.2])) w' from⟨A',c',by rw[hx],by rw[hx];exact h1.dk,h1.nw,h3⟩)
 have HDK0:=Hq (show DkR w.heap.size w d A A c from⟨h,hT,.inl rfl⟩)
 have hfirst:Lg.firstS ⟨fr,n,en,sf,tl⟩=sf/128:=Lg.Al.first ⟨hs0,Int.le_of_lt hse,hal⟩
 have hcb:=Lg.cutB_length tl
 have hpos:0<tl.size:=by omega
 obtain⟨C,hC⟩:∃ C,C=Lg.cutB tl:=⟨_,rfl⟩
 have hCG:∀ k,k*128<tl.size→C[k]? =some (Lg.pad128 ((tl.data.toList.drop (k*128)).take 128)):=by rw[hC];exact fun k hk=>Lg.cutB_get tl k hk
 obtain⟨all,hall⟩:∃ all,all=Lg.allS ⟨fr,n,en,sf,tl⟩:=⟨_,rfl⟩
 have hdef:all=if sf/128+(C.length:Int)<n then C++[Lg.zero128]else C:=by rw[hall,hC];unfold Lg.allS;rw[hfirst]
 rw[← hall]at HST HAL
 rw[hfirst]at HST HAL
 rw[← hC]at hcb
 generalize Lg.forceD d ⟨fr,n,en,sf,tl⟩=o at HST HAL HO ⊢
 generalize ForceOut o A w=Q at HO ⊢
 obtain⟨m,hm⟩:∃ m:Nat,m=(tl.size-1)/128:=⟨_,rfl⟩
 have hcl:C.length=m+1:=by omega
 have hmt:m*128<tl.size:=by omega
 obtain⟨F,hF⟩:∃ F:Int,F=sf/128:=⟨_,rfl⟩
 have hF0:0≤F:=by omega
 have hF1:F≤10000000:=by omega
 have hfl:(⟨#[]⟩:ByteArray).size≤128:=by decide
 have HFL:=Hq (fun W=>show Calls Tryz.prog 73 #[""] W fun e w'=>e= .returned (.string Lg.zero128)∧Below W.heap.size W w' from by
  have h9:=filled_any ⟨#[]⟩ hfl W
  rw[show Lg.pad128 (⟨#[]⟩:ByteArray).data.toList=Lg.zero128 from Lg.pad_none]at h9
  exact h9)
 have HFI:=Hq (fun W=>show Calls Tryz.prog 71 #[.agg #[fr,n,en,sf,tl]] W fun e w'=>e= .returned (.int .i64 F)∧Below W.heap.size W w' from by
  have h9:=rfirst_any fr n en sf tl hs0 (by omega) W
  rw[← hF]at h9
  exact h9)
 obtain⟨G,hG⟩:∃ G:Int,G=en/128:=⟨_,rfl⟩
 have HFM:=Hq (fun W=>show Calls Tryz.prog 71 #[.agg #[fr,n,en,en,tl]] W fun e w'=>e= .returned (.int .i64 G)∧Below W.heap.size W w' from by
  have h9:=rfirst_any fr n en en tl (by omega) he1 W
  rw[← hG]at h9
  exact h9)
 have HPC:=Hq (fun(k:Nat) (hk:k≤m) W=>show Calls Tryz.prog 74 #[tl,.int .i64 (k:Int)] W fun e w'=>e= .returned (.string (all[k]?.getD ⟨#[]⟩))∧Below W.heap.size W w' from by
  have h9:=piece_any tl ht k (by omega) W
  have e:all[k]? =C[k]? :=by
   rw[hdef]
   split
   ·exact List.getElem?_append_left (by omega)
   ·rfl
  rw[e,hCG k (by omega)]
  exact h9)
 have HTOP:=Hq (show(F+(m:Int)+1<n→all.length=m+1+1∧all[m+1]?.getD ⟨#[]⟩=Lg.zero128)∧(¬ F+(m:Int)+1<n→all.length=m+1)from by
  constructor
  ·intro hfit
   rw[hdef,if_pos (by rw[hcl];omega)]
   refine⟨by rw[List.length_append,hcl];rfl,?_⟩
   rw[List.getElem?_append_right (by omega),hcl]
   simp
  ·intro hfit
   rw[hdef,if_neg (by rw[hcl];omega),hcl])
 obtain⟨q,hq⟩:∃ q:Nat,q=tl.size-(en%128).toNat:=⟨_,rfl⟩
 have hgq:(G-F)*128=(q:Int):=by omega
 have hqs:q≤tl.size:=by omega
 have HTL:=Hq (show Lg.forcedL ⟨fr,n,en,sf,tl⟩=⟨fr,n,en,en,tl.extract q tl.size⟩from by
  rw[hq];rfl)
 have hg0:0≤G:=by omega
 have hg1:G≤10000000:=by omega
 have hm1:m≤10000:=by omega
 have HQ1:=Hq (show IntKind.i64.wrap (G-F)=G-F from IntWalk.i64_in _ (by omega))
 have HQ2:=Hq (show IntKind.i64.wrap ((G-F)*128)=(q:Int)from by rw[hgq];exact IntWalk.i64_in _ (by omega))
 have HQ3:=Hq (show min (q:Int) (tl.size:Int)=(q:Int)from by omega)
 have HQ4:=Hq hqs
 have hw0:IntKind.i64.wrap ((tl.size:Int)-1)=(tl.size:Int)-1:=IntWalk.i64_in _ (by omega)
 have hw1:IntKind.i64.wrap (((tl.size:Int)-1).tdiv 128)=(m:Int):=by
  have e:((tl.size:Int)-1).tdiv 128=(m:Int):=by
   rw[Int.tdiv_eq_ediv_of_nonneg (by omega)];omega
  rw[e];exact IntWalk.i64_in _ (by omega)
 rw[← hF]at HST HAL
 have hnge:¬ en≤sf:=by omega
 generalize Lg.zero128=z at HFL HTOP
 have HLB:=Hq hlb
 clear h hT hse hs0 he1 _hn0 _hn1 ht hal hne hfirst hcb hpos hC hCG hall hdef hm hcl hmt hF hG hq hgq hqs hfl hlb
 go_enter Tryz.func34,Tryz.ntmps34
 go_upto_region 1 with fail
 have H0:=Hq (show BxL w.heap.size w [(#[.slice A d.sectors.length c,d.left,d.down],29),(#[fr,n,en,sf,tl],31),(#["s",(),false],29),(#[(),(),(),(),""],31)] ((((w.alloc (.cells #[.slice A d.sectors.length c,d.left,d.down] 29)).alloc (.cells #[fr,n,en,sf,tl] 31)).alloc (.cells #["s",(),false] 29)).alloc (.cells #[(),(),(),(),""] 31))from((((BxL.nil (Below.refl w.heap.size w)).new (by simp) #[.slice A d.sectors.length c,d.left,d.down] 29).new (by simp) #[fr,n,en,sf,tl] 31).new (by simp) #["s",(),false] 29).new (by simp) #[(),(),(),(),""] 31)
 obtain⟨W0,hW0⟩:∃ W,W=(((w.alloc (.cells #[.slice A d.sectors.length c,d.left,d.down] 29)).alloc (.cells #[fr,n,en,sf,tl] 31)).alloc (.cells #["s",(),false] 29)).alloc (.cells #[(),(),(),(),""] 31):=⟨_,rfl⟩
 rw[← hW0]at H0 ⊢
 clear hW0
 have hc1:=blkCell (H0.out.get 1 _ rfl)
 go_upto_region 4 with fail
 clear hc1 hw0 hw1 hnge
 have K0:=H0.out.drew
 have XL:=K0.get1
 have hw1:IntKind.i64.wrap (F+(m:Int))=F+(m:Int):=IntWalk.i64_in _ (by omega)
 have hw2:IntKind.i64.wrap (F+(m:Int)+1)=F+(m:Int)+1:=IntWalk.i64_in _ (by omega)
 refine wp_region_held_drew (S:=(fun u=>u.heap[w.heap.size+1]? =some (.cells #[fr,n,en,sf,tl] 31 (0,0)))) Kr ?_ (fun hHeld=>?_)
 ·first|exact hSn|exact XL
 refine tkV 0 (some 26) (v:=.agg #[fr,n,en,sf,tl]) rfl (yieldsIf_load_mid (by rfl) 31 (.tmp 3) rfl (w.heap.size+1) 0 (by rfl) #[.int .i64 fr,.int .i64 n,.int .i64 en,.int .i64 sf,.string tl].toList _ (fun u hu=>(by intro j v hj;rw[Nat.zero_add,blkCell hu];simpa using hj)) Tryz.underlying31 Kr Kr) ?_
 try simp only[Act.put,pS]
 refine tkW 2 (some 28) (v:=?_) rfl ?_ (tkW 5 (some 31) (v:=?_) rfl ?_ (tkW 6 (some 32) (v:=?_) rfl ?_ ?_))
 iterate 3 (rotate_left;focus(intro u hSu;have hSv:=blkCell hSu;clear hSu;go_simp;(try with_reducible rfl)))
 try simp only[Act.put,pS]
 refine rdH 1 (some 27) rfl (fun K hK=>?_)
 go_simp
 refine(HFI.out _).mono ?_;rintro e w3 ⟨rfl,hb3⟩
 have hSn:=blkOld XL hb3
 refine hK.out _ _ ?_ (fun hHeld=>?_)
 ·first|exact hSn|exact XL
 clear hK K
 try simp only[Act.put,pS]
 refine tkW 3 (some 29) (v:=?_) rfl ?_ (tkW 4 (some 30) (v:=?_) rfl ?_ (tkW 7 (some 33) (v:=?_) rfl ?_ ?_))
 iterate 3 (rotate_left;focus(intro u hSu;have hSv:=blkCell hSu;clear hSu;go_simp;(try with_reducible rfl)))
 try simp only[Act.put,pS]
 refine wpAnyH_done Kr ?_ _
 clear hHeld hSn
 have H1:=Hq (K0.step hb3)
 clear hb3 K0 XL H0
 have HDK:=Hq (HDK0.out.below H1.out.below)
 go_upto_if 33 with fail
 clear hw1 hw2
 go_cut [7] (fun s7 wc=>s7= .int .i64 (m:Int)∧∃ (d2:Lg.Dk) (A2:Option Addr) (c2:Nat),Lg.putAll (fr+F) all all.length d=Lg.putAll (fr+F) all (m+1) d2∧BxL w.heap.size w [(#[.slice A2 d2.sectors.length c2,d2.left,d2.down],29),(#[fr,n,en,sf,tl],31),(#["s",(),false],29),(#[(),(),(),(),""],31)] wc∧DkR w.heap.size wc d2 A A2 c2∧(-9223372036854775808≤d2.left∧d2.left≤9223372036854775807))
 case first=>
  by_cases hfit:F+(m:Int)+1<n
  ·obtain⟨hlen,hz⟩:=HTOP.out.1 hfit
   have hwl:= @Lg.writeD_left d (fr+F+(m:Int)+1) z HLB.out
   have HWR:=Hq (fun W hW=>rwrite_any d HLB.out A c (fr+F+(m:Int)+1) z W hW)
   rcases hx:Lg.writeD d (fr+F+(m:Int)+1) z with⟨d3,e3⟩
   have ha:fr+F+((m+1:Nat):Int)=fr+F+(m:Int)+1:=by omega
   have HGO:=Hq (fun(he:e3=0)=>Lg.putAll_go (base:=fr+F) (all:=all) (k:=m+1) (d:=d) (d2:=d3) (by rw[hz,ha,hx,he]))
   have HSTP:=Hq (fun(he:e3≠0)=>Lg.putAll_stop (base:=fr+F) (all:=all) (k:=m+1) (d:=d) (d2:=d3) he (by rw[hz,ha,hx]))
   rw[hx]at HWR hwl
   rw[← hlen]at HGO HSTP
   simp only at hwl
   have HWL:=Hq hwl
   clear hx hwl ha hz hlen
   have hs1:IntKind.i64.wrap (fr+F)=fr+F:=IntWalk.i64_in _ (by omega)
   have hs2:IntKind.i64.wrap (fr+F+(m:Int))=fr+F+(m:Int):=IntWalk.i64_in _ (by omega)
   have hs3:IntKind.i64.wrap (fr+F+(m:Int)+1)=fr+F+(m:Int)+1:=IntWalk.i64_in _ (by omega)
   go_upto_region 5 with fail
   go_cut [8,9] (fun p q wc=>∃ (g:Nat) (A3:Option Addr) (c3:Nat),p= .pointer (some ⟨g,0,none⟩)∧q= .int .i64 e3∧BxL w.heap.size w [(#[.slice A d.sectors.length c,d.left,d.down],29),(#[fr,n,en,sf,tl],31),(#["s",(),false],29),(#[(),(),(),(),""],31)] wc∧w.heap.size+4≤g∧wc.heap[g]? =some (.cells #[.slice A3 d3.sectors.length c3,d3.left,d3.down] 29 (0,0))∧DkR w.heap.size wc d3 A A3 c3)
   case first=>
    have HB:=H1
    have HK:=HDK
    clear H1 HDK HGO HSTP HO HST HAL HPC HTOP HFM HTL HQ1 HQ2 HQ3 HQ4
    have HB:=Hq HB.out.drew
    have HK:=Hq (HK.out.below (Below.refl _ w3).drew)
    refine wp_region_held_drew (S:=(fun u=>u.heap[w.heap.size]? =some (.cells #[.slice A d.sectors.length c,d.left,d.down] 29 (0,0))∧u.heap[w.heap.size+1]? =some (.cells #[fr,n,en,sf,tl] 31 (0,0)))) Kr ?_ (fun hHeld=>?_)
    ·exact⟨HB.out.get0,HB.out.get1⟩
    refine tkV 0 (some 35) (v:=.agg #[.slice A d.sectors.length c,d.left,d.down]) rfl (yieldsIf_load_mid (by rfl) 29 (.tmp 2) rfl w.heap.size 0 (by rfl) #[.slice A d.sectors.length c,.int .i64 d.left,.bool d.down].toList _ (fun u hu=>(by intro j v hj;rw[Nat.zero_add,blkCell hu.1];simpa using hj)) Tryz.underlying29 Kr Kr) ?_
    try simp only[Act.put,pS]
    refine tkW 1 (some 36) (v:=?_) rfl ?_ (tkW 2 (some 37) (v:=?_) rfl ?_ ?_)
    iterate 2 (rotate_left;focus(intro u hSu;have hSa:=blkCell hSu.1;have hSb:=blkCell hSu.2;clear hSu;go_simp;(try with_reducible rfl)))
    try simp only[Act.put,pS]
    refine tkV 3 (some 38) (v:=.agg #[fr,n,en,sf,tl]) rfl (yieldsIf_load_mid (by rfl) 31 (.tmp 3) rfl (w.heap.size+1) 0 (by rfl) #[.int .i64 fr,.int .i64 n,.int .i64 en,.int .i64 sf,.string tl].toList _ (fun u hu=>(by intro j v hj;rw[Nat.zero_add,blkCell hu.2];simpa using hj)) Tryz.underlying31 Kr Kr) ?_
    try simp only[Act.put,pS]
    refine tkW 6 (some 41) (v:=?_) rfl ?_ ?_
    rotate_left
    ·intro u hSu;have hSa:=blkCell hSu.1;have hSb:=blkCell hSu.2;clear hSu;go_simp;(try with_reducible rfl)
    try simp only[Act.put,pS]
    refine wpAnyH_ready (rs:=[4,14]) Kr (by simp) ?_
    refine(AllReadyH.cons (o:={dst:=some 39,op:=_,type:=_,pos:=_,after:=_,guard:=_}) rfl (fun K hK=>?_) (AllReadyH.cons (o:={dst:=some 8,op:=_,type:=_,pos:=_,after:=_,guard:=_}) rfl (fun K hK=>?_) AllReadyH.nil))
    ·
     go_simp
     refine(HFI.out _).mono ?_;rintro e wf ⟨rfl,hb5⟩;have HK:=Hq (HK.out.below hb5);have HB:=Hq (HB.out.step hb5);clear hb5;(try clear hSn);have hSn:=And.intro HB.out.get0 HB.out.get1
     refine hK.out _ _ ?_ (fun hHeld=>?_)
     ·exact hSn
     clear hK K
     try simp only[Act.put,pS]
     refine tkW 5 (some 40) (v:=?_) rfl ?_ (tkW 7 (some 42) (v:=?_) rfl ?_ (tkW 8 (some 43) (v:=?_) rfl ?_ ?_))
     iterate 3 (rotate_left;focus(intro u hSu;have hSa:=blkCell hSu.1;have hSb:=blkCell hSu.2;clear hSu;go_simp;(try with_reducible rfl)))
     try simp only[Act.put,pS]
     refine wpAnyH_ready (rs:=[9,14]) Kr (by simp) ?_
     refine(AllReadyH.cons (o:={dst:=some 44,op:=_,type:=_,pos:=_,after:=_,guard:=_}) rfl (fun K hK=>?_) (AllReadyH.cons (o:={dst:=some 8,op:=_,type:=_,pos:=_,after:=_,guard:=_}) rfl (fun K hK=>?_) AllReadyH.nil))
     ·
      go_simp
      refine(HFL.out _).mono ?_;rintro e wm ⟨rfl,hb5⟩;have HK:=Hq (HK.out.below hb5);have HB:=Hq (HB.out.step hb5);clear hb5;(try clear hSn);have hSn:=And.intro HB.out.get0 HB.out.get1
      refine hK.out _ _ ?_ (fun hHeld=>?_)
      ·exact hSn
      clear hK K
      try simp only[Act.put,pS]
      refine wpAnyH_ready (rs:=[10,14]) Kr (by simp) ?_
      refine(AllReadyH.cons (o:={dst:=some 45,op:=_,type:=_,pos:=_,after:=_,guard:=_}) rfl (fun K hK=>?_) (AllReadyH.cons (o:={dst:=some 8,op:=_,type:=_,pos:=_,after:=_,guard:=_}) rfl (fun K hK=>?_) AllReadyH.nil))
      ·
       go_simp
       refine(HWR.out _ HK.out.dk).mono ?_;rintro e ww ⟨A3,c3,rfl,hd5,ha5,hb5⟩;have HK:=Hq (HK.out.put (by have:=HB.out.lt (i:=3) (by simp);omega) hd5 ha5 hb5);have HB:=Hq (HB.out.step hb5);clear hb5 hd5 ha5;(try clear hSn);have hSn:=And.intro HB.out.get0 HB.out.get1
       refine hK.out _ _ ?_ (fun hHeld=>?_)
       ·exact hSn
       clear hK K
       refine tkW 11 (some 34) (v:=?_) rfl ?_ (tkW 12 (some 46) (v:=?_) rfl ?_ (tkW 13 (some 47) (v:=?_) rfl ?_ ?_))
       iterate 3 (rotate_left;focus(intro u hSu;have hSa:=blkCell hSu.1;have hSb:=blkCell hSu.2;clear hSu;go_simp;(try with_reducible rfl)))
       try simp only[Act.put,pS]
       refine rdH 14 (some 8) rfl (fun K hK=>?_)
       go_simp
       have hg4:w.heap.size+4≤ww.heap.size:=HB.out.lt (i:=3) (by simp);have HK:=Hq (HK.out.below (allocB ww (.cells #["s",(),false] 29)));have HB:=Hq (HB.out.step (allocB ww (.cells #["s",(),false] 29)));have HG:=Hq (heap_alloc_new ww (.cells #["s",(),false] 29));(try clear hSn);have hSn:=And.intro HB.out.get0 HB.out.get1
       refine hK.out _ _ ?_ (fun hHeld=>?_)
       ·exact hSn
       clear hK K
       try simp only[Act.put,pS]
       refine rdH 15 none rfl (fun K hK=>?_)
       refine wantedIf (by rfl) ?_
       refine wp_store_whole 29 (.tmp 8) (.tmp 46) rfl ww.heap.size #[.slice A3 d3.sectors.length c3,d3.left,d3.down] _ _ rfl rfl HG.out Kr Kr Kr ?_
       have HK:=Hq (HK.out.row HG.out (by decide) #[.slice A3 d3.sectors.length c3,d3.left,d3.down])
       have HB:=Hq (HB.out.under (M:=ww.heap.size) (by show w.heap.size+4≤_;exact hg4) (below_setRow (Below.refl ww.heap.size (ww.alloc (.cells #["s",(),false] 29))) (Nat.le_refl ww.heap.size) #[.slice A3 d3.sectors.length c3,d3.left,d3.down]))
       have HG:=Hq (show((ww.alloc (.cells #["s",(),false] 29)).setRow ww.heap.size #[.slice A3 d3.sectors.length c3,d3.left,d3.down]).heap[ww.heap.size]? =some (.cells #[.slice A3 d3.sectors.length c3,d3.left,d3.down] 29 (0,0))from setRow_heap _ _ _ _ _ _ HG.out)
       (try clear hSn);have hSn:=And.intro HB.out.get0 HB.out.get1
       refine hK.out _ _ ?_ (fun hHeld=>?_)
       ·exact hSn
       clear hK K
       try simp only[Act.put]
       refine tkW 16 (some 9) (v:=?_) rfl ?_ ?_
       rotate_left
       ·intro u hSu;have hSa:=blkCell hSu.1;have hSb:=blkCell hSu.2;clear hSu;go_simp;(try with_reducible rfl)
       try simp only[Act.put,pS]
       refine wpAnyH_done Kr ?_ _
       clear hHeld hSn
       go_wp2_with fail
       go_meet
       case rel=>exact⟨_,A3,c3,rfl,rfl,HB.out,hg4,HG.out,HK.out⟩
      ·
       go_simp
       have hg4:w.heap.size+4≤wm.heap.size:=HB.out.lt (i:=3) (by simp);have HK:=Hq (HK.out.below (allocB wm (.cells #["s",(),false] 29)));have HB:=Hq (HB.out.step (allocB wm (.cells #["s",(),false] 29)));have HG:=Hq (heap_alloc_new wm (.cells #["s",(),false] 29));(try clear hSn);have hSn:=And.intro HB.out.get0 HB.out.get1
       refine hK.out _ _ ?_ (fun hHeld=>?_)
       ·exact hSn
       clear hK K
       try simp only[Act.put,pS]
       refine rdH 10 (some 45) rfl (fun K hK=>?_)
       go_simp
       refine(HWR.out _ HK.out.dk).mono ?_;rintro e ww ⟨A3,c3,rfl,hd5,ha5,hb5⟩;have HK:=Hq (HK.out.put (by have:=HB.out.lt (i:=3) (by simp);omega) hd5 ha5 hb5);have HB:=Hq (HB.out.step hb5);have HG:=Hq (blkOld HG.out hb5);clear hb5 hd5 ha5;(try clear hSn);have hSn:=And.intro HB.out.get0 HB.out.get1
       refine hK.out _ _ ?_ (fun hHeld=>?_)
       ·exact hSn
       clear hK K
       refine tkW 11 (some 34) (v:=?_) rfl ?_ (tkW 12 (some 46) (v:=?_) rfl ?_ (tkW 13 (some 47) (v:=?_) rfl ?_ ?_))
       iterate 3 (rotate_left;focus(intro u hSu;have hSa:=blkCell hSu.1;have hSb:=blkCell hSu.2;clear hSu;go_simp;(try with_reducible rfl)))
       try simp only[Act.put,pS]
       refine rdH 15 none rfl (fun K hK=>?_)
       refine wantedIf (by rfl) ?_
       refine wp_store_whole 29 (.tmp 8) (.tmp 46) rfl wm.heap.size #[.slice A3 d3.sectors.length c3,d3.left,d3.down] _ _ rfl rfl HG.out Kr Kr Kr ?_
       have HK:=Hq (HK.out.row HG.out (by decide) #[.slice A3 d3.sectors.length c3,d3.left,d3.down])
       have HB:=Hq (HB.out.under (M:=wm.heap.size) (by show w.heap.size+4≤_;exact hg4) (below_setRow (Below.refl wm.heap.size ww) (Nat.le_refl wm.heap.size) #[.slice A3 d3.sectors.length c3,d3.left,d3.down]))
       have HG:=Hq (show(ww.setRow wm.heap.size #[.slice A3 d3.sectors.length c3,d3.left,d3.down]).heap[wm.heap.size]? =some (.cells #[.slice A3 d3.sectors.length c3,d3.left,d3.down] 29 (0,0))from setRow_heap _ _ _ _ _ _ HG.out)
       (try clear hSn);have hSn:=And.intro HB.out.get0 HB.out.get1
       refine hK.out _ _ ?_ (fun hHeld=>?_)
       ·exact hSn
       clear hK K
       try simp only[Act.put]
       refine tkW 16 (some 9) (v:=?_) rfl ?_ ?_
       rotate_left
       ·intro u hSu;have hSa:=blkCell hSu.1;have hSb:=blkCell hSu.2;clear hSu;go_simp;(try with_reducible rfl)
       try simp only[Act.put,pS]
       refine wpAnyH_done Kr ?_ _
       clear hHeld hSn
       go_wp2_with fail
       go_meet
       case rel=>exact⟨_,A3,c3,rfl,rfl,HB.out,hg4,HG.out,HK.out⟩
     ·
      go_simp
      have hg4:w.heap.size+4≤wf.heap.size:=HB.out.lt (i:=3) (by simp);have HK:=Hq (HK.out.below (allocB wf (.cells #["s",(),false] 29)));have HB:=Hq (HB.out.step (allocB wf (.cells #["s",(),false] 29)));have HG:=Hq (heap_alloc_new wf (.cells #["s",(),false] 29));(try clear hSn);have hSn:=And.intro HB.out.get0 HB.out.get1
      refine hK.out _ _ ?_ (fun hHeld=>?_)
      ·exact hSn
      clear hK K
      try simp only[Act.put,pS]
      refine rdH 9 (some 44) rfl (fun K hK=>?_)
      go_simp
      refine(HFL.out _).mono ?_;rintro e wm ⟨rfl,hb5⟩;have HK:=Hq (HK.out.below hb5);have HB:=Hq (HB.out.step hb5);have HG:=Hq (blkOld HG.out hb5);clear hb5;(try clear hSn);have hSn:=And.intro HB.out.get0 HB.out.get1
      refine hK.out _ _ ?_ (fun hHeld=>?_)
      ·exact hSn
      clear hK K
      try simp only[Act.put,pS]
      refine rdH 10 (some 45) rfl (fun K hK=>?_)
      go_simp
      refine(HWR.out _ HK.out.dk).mono ?_;rintro e ww ⟨A3,c3,rfl,hd5,ha5,hb5⟩;have HK:=Hq (HK.out.put (by have:=HB.out.lt (i:=3) (by simp);omega) hd5 ha5 hb5);have HB:=Hq (HB.out.step hb5);have HG:=Hq (blkOld HG.out hb5);clear hb5 hd5 ha5;(try clear hSn);have hSn:=And.intro HB.out.get0 HB.out.get1
      refine hK.out _ _ ?_ (fun hHeld=>?_)
      ·exact hSn
      clear hK K
      refine tkW 11 (some 34) (v:=?_) rfl ?_ (tkW 12 (some 46) (v:=?_) rfl ?_ (tkW 13 (some 47) (v:=?_) rfl ?_ ?_))
      iterate 3 (rotate_left;focus(intro u hSu;have hSa:=blkCell hSu.1;have hSb:=blkCell hSu.2;clear hSu;go_simp;(try with_reducible rfl)))
      try simp only[Act.put,pS]
      refine rdH 15 none rfl (fun K hK=>?_)
      refine wantedIf (by rfl) ?_
      refine wp_store_whole 29 (.tmp 8) (.tmp 46) rfl wf.heap.size #[.slice A3 d3.sectors.length c3,d3.left,d3.down] _ _ rfl rfl HG.out Kr Kr Kr ?_
      have HK:=Hq (HK.out.row HG.out (by decide) #[.slice A3 d3.sectors.length c3,d3.left,d3.down])
      have HB:=Hq (HB.out.under (M:=wf.heap.size) (by show w.heap.size+4≤_;exact hg4) (below_setRow (Below.refl wf.heap.size ww) (Nat.le_refl wf.heap.size) #[.slice A3 d3.sectors.length c3,d3.left,d3.down]))
      have HG:=Hq (show(ww.setRow wf.heap.size #[.slice A3 d3.sectors.length c3,d3.left,d3.down]).heap[wf.heap.size]? =some (.cells #[.slice A3 d3.sectors.length c3,d3.left,d3.down] 29 (0,0))from setRow_heap _ _ _ _ _ _ HG.out)
      (try clear hSn);have hSn:=And.intro HB.out.get0 HB.out.get1
      refine hK.out _ _ ?_ (fun hHeld=>?_)
      ·exact hSn
      clear hK K
      try simp only[Act.put]
      refine tkW 16 (some 9) (v:=?_) rfl ?_ ?_
      rotate_left
      ·intro u hSu;have hSa:=blkCell hSu.1;have hSb:=blkCell hSu.2;clear hSu;go_simp;(try with_reducible rfl)
      try simp only[Act.put,pS]
      refine wpAnyH_done Kr ?_ _
      clear hHeld hSn
      go_wp2_with fail
      go_meet
      case rel=>exact⟨_,A3,c3,rfl,rfl,HB.out,hg4,HG.out,HK.out⟩
    ·
     go_simp
     have hg4:w.heap.size+4≤w3.drew.heap.size:=HB.out.lt (i:=3) (by simp);have HK:=Hq (HK.out.below (allocB w3.drew (.cells #["s",(),false] 29)));have HB:=Hq (HB.out.step (allocB w3.drew (.cells #["s",(),false] 29)));have HG:=Hq (heap_alloc_new w3.drew (.cells #["s",(),false] 29));(try clear hSn);have hSn:=And.intro HB.out.get0 HB.out.get1
     refine hK.out _ _ ?_ (fun hHeld=>?_)
     ·exact hSn
     clear hK K
     try simp only[Act.put,pS]
     refine rdH 4 (some 39) rfl (fun K hK=>?_)
     go_simp
     refine(HFI.out _).mono ?_;rintro e wf ⟨rfl,hb5⟩;have HK:=Hq (HK.out.below hb5);have HB:=Hq (HB.out.step hb5);have HG:=Hq (blkOld HG.out hb5);clear hb5;(try clear hSn);have hSn:=And.intro HB.out.get0 HB.out.get1
     refine hK.out _ _ ?_ (fun hHeld=>?_)
     ·exact hSn
     clear hK K
     try simp only[Act.put,pS]
     refine tkW 5 (some 40) (v:=?_) rfl ?_ (tkW 7 (some 42) (v:=?_) rfl ?_ (tkW 8 (some 43) (v:=?_) rfl ?_ ?_))
     iterate 3 (rotate_left;focus(intro u hSu;have hSa:=blkCell hSu.1;have hSb:=blkCell hSu.2;clear hSu;go_simp;(try with_reducible rfl)))
     try simp only[Act.put,pS]
     refine rdH 9 (some 44) rfl (fun K hK=>?_)
     go_simp
     refine(HFL.out _).mono ?_;rintro e wm ⟨rfl,hb5⟩;have HK:=Hq (HK.out.below hb5);have HB:=Hq (HB.out.step hb5);have HG:=Hq (blkOld HG.out hb5);clear hb5;(try clear hSn);have hSn:=And.intro HB.out.get0 HB.out.get1
     refine hK.out _ _ ?_ (fun hHeld=>?_)
     ·exact hSn
     clear hK K
     try simp only[Act.put,pS]
     refine rdH 10 (some 45) rfl (fun K hK=>?_)
     go_simp
     refine(HWR.out _ HK.out.dk).mono ?_;rintro e ww ⟨A3,c3,rfl,hd5,ha5,hb5⟩;have HK:=Hq (HK.out.put (by have:=HB.out.lt (i:=3) (by simp);omega) hd5 ha5 hb5);have HB:=Hq (HB.out.step hb5);have HG:=Hq (blkOld HG.out hb5);clear hb5 hd5 ha5;(try clear hSn);have hSn:=And.intro HB.out.get0 HB.out.get1
     refine hK.out _ _ ?_ (fun hHeld=>?_)
     ·exact hSn
     clear hK K
     refine tkW 11 (some 34) (v:=?_) rfl ?_ (tkW 12 (some 46) (v:=?_) rfl ?_ (tkW 13 (some 47) (v:=?_) rfl ?_ ?_))
     iterate 3 (rotate_left;focus(intro u hSu;have hSa:=blkCell hSu.1;have hSb:=blkCell hSu.2;clear hSu;go_simp;(try with_reducible rfl)))
     try simp only[Act.put,pS]
     refine rdH 15 none rfl (fun K hK=>?_)
     refine wantedIf (by rfl) ?_
     refine wp_store_whole 29 (.tmp 8) (.tmp 46) rfl w3.drew.heap.size #[.slice A3 d3.sectors.length c3,d3.left,d3.down] _ _ rfl rfl HG.out Kr Kr Kr ?_
     have HK:=Hq (HK.out.row HG.out (by decide) #[.slice A3 d3.sectors.length c3,d3.left,d3.down])
     have HB:=Hq (HB.out.under (M:=w3.drew.heap.size) (by show w.heap.size+4≤_;exact hg4) (below_setRow (Below.refl w3.drew.heap.size ww) (Nat.le_refl w3.drew.heap.size) #[.slice A3 d3.sectors.length c3,d3.left,d3.down]))
     have HG:=Hq (show(ww.setRow w3.drew.heap.size #[.slice A3 d3.sectors.length c3,d3.left,d3.down]).heap[w3.drew.heap.size]? =some (.cells #[.slice A3 d3.sectors.length c3,d3.left,d3.down] 29 (0,0))from setRow_heap _ _ _ _ _ _ HG.out)
     (try clear hSn);have hSn:=And.intro HB.out.get0 HB.out.get1
     refine hK.out _ _ ?_ (fun hHeld=>?_)
     ·exact hSn
     clear hK K
     try simp only[Act.put]
     refine tkW 16 (some 9) (v:=?_) rfl ?_ ?_
     rotate_left
     ·intro u hSu;have hSa:=blkCell hSu.1;have hSb:=blkCell hSu.2;clear hSu;go_simp;(try with_reducible rfl)
     try simp only[Act.put,pS]
     refine wpAnyH_done Kr ?_ _
     clear hHeld hSn
     go_wp2_with fail
     go_meet
     case rel=>exact⟨_,A3,c3,rfl,rfl,HB.out,hg4,HG.out,HK.out⟩
   case rest=>
    obtain⟨g,A3,c3,rfl,rfl,hb3,hg4,hg3,hk3⟩:=hcut
    obtain⟨wb,rfl⟩:∃ wm:World,wm=wc:=⟨_,rfl⟩
    have HB3:=Hq hb3
    have HG3:=Hq hg3
    have HK3:=Hq hk3
    clear hb3 hg3 hk3 H1 HDK HWR hs1 hs2 hs3
    by_cases he:e3=0
    ·have HGG:=Hq (HGO.out he)
     subst he
     clear HGO HSTP
     go_wp2_with (first
      |(with_reducible refine listLoad Kr 29 (.tmp 8) rfl g rfl #[.slice A3 d3.sectors.length c3,d3.left,d3.down] _ HG3.out _ Tryz.underlying29 Kr Kr ?_)
      |(with_reducible refine listStore Kr 29 (.tmp 2) (.tmp 53) rfl w.heap.size #[.slice A3 d3.sectors.length c3,d3.left,d3.down] _ _ rfl rfl HB3.out.get0 Kr Kr Kr ?_))
     go_meet
     case rel=>exact⟨rfl,d3,A3,c3,HGG.out,by have h:=HB3.out.row 0 #[.slice A3 d3.sectors.length c3,d3.left,d3.down] _ rfl;simpa using h,HK3.out.row HB3.out.get0 (by decide) _,HWL.out⟩
    ·have HFIN:=Hq (HST.out d3 e3 he (HSTP.out he))
     have he1:(e3==0)=false:=by simpa using he
     have he2:(e3 != 0)=true:=by simpa using he
     clear HGO HSTP he
     go_upto_region 7 with fail
     clear he1 he2
     have HD:=Hq HB3.out.drew
     have X0:=blkOld HG3.out (Below.refl _ wb).drew
     have Y0:=HD.out.get1
     refine wp_region_held_drew (S:=(fun u=>u.heap[g]? =some (.cells #[.slice A3 d3.sectors.length c3,d3.left,d3.down] 29 (0,0))∧u.heap[(w.heap.size+1)]? =some (.cells #[fr,n,en,sf,tl] 31 (0,0)))) Kr ?_ (fun hHeld=>?_)
     ·first|exact hSn|exact⟨X0,Y0⟩
     refine tkV 0 (some 50) (v:=.agg #[.slice A3 d3.sectors.length c3,d3.left,d3.down]) rfl (yieldsIf_load_mid (by rfl) 29 (.tmp 8) rfl g 0 (by rfl) #[.slice A3 d3.sectors.length c3,.int .i64 d3.left,.bool d3.down].toList _ (fun u hu=>(by intro j v hj;rw[Nat.zero_add,blkCell hu.1];simpa using hj)) Tryz.underlying29 Kr Kr) ?_
     try simp only[Act.put,pS]
     refine tkV 1 (some 51) (v:=.agg #[fr,n,en,sf,tl]) rfl (yieldsIf_load_mid (by rfl) 31 (.tmp 3) rfl (w.heap.size+1) 0 (by rfl) #[.int .i64 fr,.int .i64 n,.int .i64 en,.int .i64 sf,.string tl].toList _ (fun u hu=>(by intro j v hj;rw[Nat.zero_add,blkCell hu.2];simpa using hj)) Tryz.underlying31 Kr Kr) ?_
     try simp only[Act.put,pS]
     refine tkW 2 (some 52) (v:=?_) rfl ?_ ?_
     rotate_left
     ·intro u hSu;clear hSu;go_simp;(try with_reducible rfl)
     try simp only[Act.put,pS]
     refine rdH 3 none rfl (fun K hK=>?_)
     refine wantedIf (by rfl) ?_
     refine wp_store_whole 29 (.tmp 4) (.tmp 50) rfl (w.heap.size+2) #[.slice A3 d3.sectors.length c3,d3.left,d3.down] _ _ rfl rfl (HD.out.get 2 _ rfl) Kr Kr Kr ?_
     have HE:=Hq (HD.out.row 2 #[.slice A3 d3.sectors.length c3,d3.left,d3.down] _ rfl)
     have X1:=((heap_setRow_other _ (w.heap.size+2) #[.slice A3 d3.sectors.length c3,d3.left,d3.down] g (by omega)).trans X0)
     have Y1:=HE.out.get1
     have hSn:=And.intro X1 Y1
     refine hK.out _ _ ?_ (fun hHeld=>?_)
     ·first|exact hSn|exact⟨X0,Y0⟩
     clear hK K
     try simp only[Act.put]
     refine rdH 4 none rfl (fun K hK=>?_)
     refine wantedIf (by rfl) ?_
     refine wp_store_whole 31 (.tmp 5) (.tmp 51) rfl (w.heap.size+3) #[fr,n,en,sf,tl] _ _ rfl rfl (HE.out.get 3 _ rfl) Kr Kr Kr ?_
     have HG:=Hq (HE.out.row 3 #[fr,n,en,sf,tl] _ rfl)
     try clear hSn
     have hSn:=And.intro ((heap_setRow_other _ (w.heap.size+3) #[fr,n,en,sf,tl] g (by omega)).trans X1) HG.out.get1
     refine hK.out _ _ ?_ (fun hHeld=>?_)
     ·first|exact hSn|exact⟨X0,Y0⟩
     clear hK K
     try simp only[Act.put]
     refine tkW 5 (some 6) (v:=?_) rfl ?_ ?_
     rotate_left
     ·intro u hSu;clear hSu;go_simp;(try with_reducible rfl)
     try simp only[Act.put,pS]
     refine wpAnyH_done Kr ?_ _
     clear hHeld hSn
     go_wp2_with fail
     refine bodyPost_ret (v:=.tuple #[.agg #[.slice A3 d3.sectors.length c3,d3.left,d3.down],.agg #[fr,n,en,sf,tl],e3]) (results_cells rfl _ _ rfl rfl (load_whole (HG.out.get 2 _ rfl) Tryz.underlying29 Kr Kr) (load_whole (HG.out.get 3 _ rfl) Tryz.underlying31 Kr Kr) rfl) rfl ?_
     have k1:=HK3.out.below (Below.refl _ wb).drew
     have k2:=k1.row (HD.out.get 2 _ rfl) (by decide) #[.slice A3 d3.sectors.length c3,d3.left,d3.down]
     exact HO.out A3 c3 _ (d3,⟨fr,n,en,sf,tl⟩,e3) HFIN.out (k2.row (HE.out.get 3 _ rfl) (by decide) _) HG.out.below
  ·have hlen:=HTOP.out.2 hfit
   go_wp2_with fail
   go_meet
   case rel=>exact⟨rfl,d,A,c,by rw[hlen],H1.out,HDK.out,HLB.out⟩
 case rest=>
  obtain⟨rfl,d0,A0,c0,hput0,hbx0,hdk0,hlb0⟩:=hcut
  obtain⟨wa,rfl⟩:∃ wm:World,wm=wc:=⟨_,rfl⟩
  have HPUT0:=Hq hput0
  have HBX0:=Hq hbx0
  have HDKA:=Hq hdk0
  have HLB0:=Hq hlb0
  clear hput0 hbx0 hdk0 hlb0 H1 HDK HTOP HFL
  go_wp2_with fail
  go_loopw [10] (fun i wr=>∃ (x:Int) (d2:Lg.Dk) (A2:Option Addr) (c2:Nat),i= .int .i64 x∧-1≤x∧x≤(m:Int)∧Lg.putAll (fr+F) all all.length d=Lg.putAll (fr+F) all (x+1).toNat d2∧BxL w.heap.size w [(#[.slice A2 d2.sectors.length c2,d2.left,d2.down],29),(#[fr,n,en,sf,tl],31),(#["s",(),false],29),(#[(),(),(),(),""],31)] wr∧DkR w.heap.size wr d2 A A2 c2∧(-9223372036854775808≤d2.left∧d2.left≤9223372036854775807)) (fun i _=>(intOf i+1).toNat)
  case atStart=>exact⟨(m:Int),d0,A0,c0,rfl,by omega,by omega,by rw[show((m:Int)+1).toNat=m+1 by omega];exact HPUT0.out,HBX0.out,HDKA.out,HLB0.out⟩
  case round=>
   obtain⟨x,d2,A2,c2,rfl,hx1,hx2,hput,hbx,hdk,hlb2⟩:=hrel
   have HPUT:=Hq hput
   have HBX:=Hq hbx
   have HDK:=Hq hdk
   have HLB2:=Hq hlb2
   clear hput hbx hdk hlb2 HPUT0 HBX0 HDKA HLB0
   by_cases h0:x= -1
   ·subst h0
    have HFIN:=Hq (HAL.out d2 (HPUT.out.trans rfl))
    clear hx1 hx2
    go_upto_region 17 with(first
     |(with_reducible refine listLoad Kr 31 (.tmp 3) rfl (w.heap.size+1) rfl #[fr,n,en,sf,tl] _ HBX.out.get1 _ Tryz.underlying31 Kr Kr ?_)
     |(with_reducible refine wpList_store_new rfl 31 (.tmp 13) (.tmp 81) rfl #[fr,n,en,sf,tl] _ _ rfl Kr Kr Kr Kr ?_))
    have HM:=Hq (heap_alloc_new wr (.cells #[fr,n,en,sf,tl] 31))
    have hgm:w.heap.size+4≤wr.heap.size:=HBX.out.lt (i:=3) (by simp)
    have HB1:=Hq (HBX.out.step (allocB wr (.cells #[fr,n,en,sf,tl] 31)))
    have HK1:=Hq (HDK.out.below (allocB wr (.cells #[fr,n,en,sf,tl] 31)))
    obtain⟨gm,hge⟩:∃ g,g=wr.heap.size:=⟨_,rfl⟩
    obtain⟨W1,hW1⟩:∃ W,W=wr.alloc (.cells #[fr,n,en,sf,tl] 31):=⟨_,rfl⟩
    rw[← hge]at HM hgm
    rw[← hW1]at HM HB1 HK1
    rw[← hW1,← hge]
    clear hge hW1 HBX HDK
    have hc1:=blkCell HB1.out.get1
    have hcm:=blkCell HM.out
    have hzm:=blkFrozen HM.out
    go_upto_region 18 with fail
    have HM2:=Hq (show(W1.setCell ⟨gm,3,none⟩ (.int .i64 en)).heap[gm]? =some (.cells #[fr,n,en,en,tl] 31 (0,0))from by have h:=blkSet 3 HM.out (.int .i64 en);simpa using h)
    have HB2:=Hq (HB1.out.under (M:=gm) (by show w.heap.size+4≤gm;exact hgm) ((Below.refl gm W1).setCell (p:=⟨gm,3,none⟩) (Nat.le_refl gm) (.int .i64 en)))
    have HK2:=Hq (HK1.out.set HM.out (by decide) 3 (.int .i64 en))
    obtain⟨W2,hW2⟩:∃ W,W=W1.setCell ⟨gm,3,none⟩ (.int .i64 en):=⟨_,rfl⟩
    rw[← hW2]at HM2 HB2 HK2
    rw[← hW2]
    clear hW2 hc1 hcm hzm HM HB1 HK1
    have HB:=Hq HB2.out.drew
    have HK:=Hq (HK2.out.below (Below.refl _ W2).drew)
    have HG:=Hq (blkOld HM2.out (Below.refl _ W2).drew)
    clear HM2 HB2 HK2
    have hq1:=HQ1.out
    have hq2:=HQ2.out
    have hq3:=HQ3.out
    have hq4:(q:Int)≤(tl.size:Int):=by have:=HQ4.out;omega
    have hq5:(0:Int)≤(q:Int):=by omega
    refine wp_region_Z (S:=(fun u=>u.heap[w.heap.size+1]? =some (.cells #[fr,n,en,sf,tl] 31 (0,0))∧u.heap[gm]? =some (.cells #[fr,n,en,en,tl] 31 (0,0)))) 14 Kr ?_ (fun hHeld=>?_)
    ·first|exact hSn|exact⟨HB.out.get1,HG.out⟩
    refine wpAnyZ_take (i:=0) (oi:={dst:=some 85,op:=_,type:=_,pos:=_,after:=_,guard:=_}) (v:=?_) (p:=[14]) rfl Kr Kr Kr Kr Kr Kr (fun _ _ _ h=>h) (Or.inl ⟨by rfl,?_⟩) (by assumption) ?_
    rotate_left
    ·intro u hSu;have hSa:=blkCell hSu.1;have hSb:=blkCell hSu.2;clear hSu;go_simp;(try with_reducible rfl)
    try simp only[Act.put,pS]
    refine wpAnyZ_take (i:=1) (oi:={dst:=some 86,op:=_,type:=_,pos:=_,after:=_,guard:=_}) (v:=?_) (p:=[14]) rfl Kr Kr Kr Kr Kr Kr (fun _ _ _ h=>h) (Or.inl ⟨by rfl,?_⟩) (by assumption) ?_
    rotate_left
    ·intro u hSu;have hSa:=blkCell hSu.1;have hSb:=blkCell hSu.2;clear hSu;go_simp;(try with_reducible rfl)
    try simp only[Act.put,pS]
    refine wpAnyZ_take (i:=2) (oi:={dst:=some 87,op:=_,type:=_,pos:=_,after:=_,guard:=_}) (v:=.agg #[fr,n,en,en,tl]) (p:=[14]) rfl Kr Kr Kr Kr Kr Kr (fun _ _ _ h=>h) (yieldsIf_load_mid (by rfl) 31 (.tmp 13) rfl gm 0 (by rfl) #[.int .i64 fr,.int .i64 n,.int .i64 en,.int .i64 en,.string tl].toList _ (fun u hu=>(by intro j v hj;rw[Nat.zero_add,blkCell hu.2];simpa using hj)) Tryz.underlying31 Kr Kr) (by assumption) ?_
    try simp only[Act.put,pS]
    refine wpAnyZ_take (i:=4) (oi:={dst:=some 89,op:=_,type:=_,pos:=_,after:=_,guard:=_}) (v:=.agg #[fr,n,en,sf,tl]) (p:=[14]) rfl Kr Kr Kr Kr Kr Kr (fun _ _ _ h=>h) (yieldsIf_load_mid (by rfl) 31 (.tmp 3) rfl (w.heap.size+1) 0 (by rfl) #[.int .i64 fr,.int .i64 n,.int .i64 en,.int .i64 sf,.string tl].toList _ (fun u hu=>(by intro j v hj;rw[Nat.zero_add,blkCell hu.1];simpa using hj)) Tryz.underlying31 Kr Kr) (by assumption) ?_
    try simp only[Act.put,pS]
    refine wpAnyZ_take (i:=8) (oi:={dst:=some 93,op:=_,type:=_,pos:=_,after:=_,guard:=_}) (v:=?_) (p:=[14]) rfl Kr Kr Kr Kr Kr Kr (fun _ _ _ h=>h) (Or.inl ⟨by rfl,?_⟩) (by assumption) ?_
    rotate_left
    ·intro u hSu;have hSa:=blkCell hSu.1;have hSb:=blkCell hSu.2;clear hSu;go_simp;(try with_reducible rfl)
    try simp only[Act.put,pS]
    refine wpAnyZ_take (i:=9) (oi:={dst:=some 94,op:=_,type:=_,pos:=_,after:=_,guard:=_}) (v:=?_) (p:=[14]) rfl Kr Kr Kr Kr Kr Kr (fun _ _ _ h=>h) (Or.inl ⟨by rfl,?_⟩) (by assumption) ?_
    rotate_left
    ·intro u hSu;have hSa:=blkCell hSu.1;have hSb:=blkCell hSu.2;clear hSu;go_simp;(try with_reducible rfl)
    try simp only[Act.put,pS]
    refine wpAnyZ_take (i:=10) (oi:={dst:=some 95,op:=_,type:=_,pos:=_,after:=_,guard:=_}) (v:=?_) (p:=[14]) rfl Kr Kr Kr Kr Kr Kr (fun _ _ _ h=>h) (Or.inl ⟨by rfl,?_⟩) (by assumption) ?_
    rotate_left
    ·intro u hSu;have hSa:=blkCell hSu.1;have hSb:=blkCell hSu.2;clear hSu;go_simp;(try with_reducible rfl)
    try simp only[Act.put,pS]
    refine wpAnyZ_ready (rs:=[3]) Kr (by simp) ?_
    refine AllReadyZ.cons (o:={dst:=some 88,op:=_,type:=_,pos:=_,after:=_,guard:=_}) rfl (fun K hK=>?_) ?_
    rotate_left
    ·exact AllReadyZ.nil
    go_simp
    refine(HFM.out _).mono ?_;rintro e wg ⟨rfl,hb5⟩;have HK:=Hq (HK.out.below hb5);have HB:=Hq (HB.out.step hb5);have HG:=Hq (blkOld HG.out hb5);clear hb5;(try clear hSn);have hSn:=And.intro HB.out.get1 HG.out
    refine hK.out _ _ ?_ (fun hHeld=>?_)
    ·first|exact hSn|exact⟨HB.out.get1,HG.out⟩
    clear hK K
    try simp only[Act.put,pS]
    refine wpAnyZ_ready (rs:=[5]) Kr (by simp) ?_
    refine AllReadyZ.cons (o:={dst:=some 90,op:=_,type:=_,pos:=_,after:=_,guard:=_}) rfl (fun K hK=>?_) ?_
    rotate_left
    ·exact AllReadyZ.nil
    go_simp
    refine(HFI.out _).mono ?_;rintro e wh ⟨rfl,hb5⟩;have HK:=Hq (HK.out.below hb5);have HB:=Hq (HB.out.step hb5);have HG:=Hq (blkOld HG.out hb5);clear hb5;(try clear hSn);have hSn:=And.intro HB.out.get1 HG.out
    have hcm:=blkCell HG.out
    have hzm:=blkFrozen HG.out
    refine hK.out _ _ ?_ (fun hHeld=>?_)
    ·first|exact hSn|exact⟨HB.out.get1,HG.out⟩
    clear hK K
    try simp only[Act.put,pS]
    refine wpAnyZ_take (i:=6) (oi:={dst:=some 91,op:=_,type:=_,pos:=_,after:=_,guard:=_}) (v:=?_) (p:=[14]) rfl Kr Kr Kr Kr Kr Kr (fun _ _ _ h=>h) (Or.inl ⟨by rfl,?_⟩) (by assumption) ?_
    rotate_left
    ·intro u hSu;have hSa:=blkCell hSu.1;have hSb:=blkCell hSu.2;clear hSu;go_simp;(try with_reducible rfl)
    try simp only[Act.put,pS]
    refine wpAnyZ_take (i:=7) (oi:={dst:=some 92,op:=_,type:=_,pos:=_,after:=_,guard:=_}) (v:=?_) (p:=[14]) rfl Kr Kr Kr Kr Kr Kr (fun _ _ _ h=>h) (Or.inl ⟨by rfl,?_⟩) (by assumption) ?_
    rotate_left
    ·intro u hSu;have hSa:=blkCell hSu.1;have hSb:=blkCell hSu.2;clear hSu;go_simp;(try with_reducible rfl)
    try simp only[Act.put,pS]
    refine wpAnyZ_take (i:=11) (oi:={dst:=some 96,op:=_,type:=_,pos:=_,after:=_,guard:=_}) (v:=?_) (p:=[14]) rfl Kr Kr Kr Kr Kr Kr (fun _ _ _ h=>h) (Or.inl ⟨by rfl,?_⟩) (by assumption) ?_
    rotate_left
    ·intro u hSu;have hSa:=blkCell hSu.1;have hSb:=blkCell hSu.2;clear hSu;go_simp;(try with_reducible rfl)
    try simp only[Act.put,pS]
    refine wpAnyZ_take (i:=12) (oi:={dst:=some 97,op:=_,type:=_,pos:=_,after:=_,guard:=_}) (v:=?_) (p:=[14]) rfl Kr Kr Kr Kr Kr Kr (fun _ _ _ h=>h) (Or.inl ⟨by rfl,?_⟩) (by assumption) ?_
    rotate_left
    ·intro u hSu;have hSa:=blkCell hSu.1;have hSb:=blkCell hSu.2;clear hSu;go_simp;(try with_reducible rfl)
    try simp only[Act.put,pS]
    refine wpAnyZ_take (i:=13) (oi:={dst:=some 98,op:=_,type:=_,pos:=_,after:=_,guard:=_}) (v:=?_) (p:=[14]) rfl Kr Kr Kr Kr Kr Kr (fun _ _ _ h=>h) (Or.inl ⟨by rfl,?_⟩) (by assumption) ?_
    rotate_left
    ·intro u hSu;have hSa:=blkCell hSu.1;have hSb:=blkCell hSu.2;clear hSu;go_simp;(try with_reducible rfl)
    try simp only[Act.put,pS]
    refine wpAnyZ_ready (rs:=[14]) Kr (by simp) ?_
    refine AllReadyZ.last (o:={dst:=none,op:=_,type:=_,pos:=_,after:=_,guard:=_}) rfl Kr (fun K hK=>?_) ?_
    rotate_left
    ·exact AllReadyZ.nil
    go_simp
    have HG':=Hq (show(wh.setCell ⟨gm,4,none⟩ (.string (tl.extract q tl.size))).heap[gm]? =some (.cells #[fr,n,en,en,.string (tl.extract q tl.size)] 31 (0,0))from by have h:=blkSet 4 HG.out (.string (tl.extract q tl.size));simpa using h)
    have HB':=Hq (HB.out.under (M:=gm) (by show w.heap.size+4≤gm;exact hgm) ((Below.refl gm wh).setCell (p:=⟨gm,4,none⟩) (Nat.le_refl gm) (.string (tl.extract q tl.size))))
    have HK':=Hq (HK.out.set HG.out (by decide) 4 (.string (tl.extract q tl.size)))
    refine hK.out _ _ ?_
    clear hK K
    try simp only[Act.put,pS]
    refine wpAnyZ_done Kr ?_ _
    (try clear hHeld)
    clear hSn hcm hzm HG HB HK hq1 hq2 hq3 hq4 hq5
    obtain⟨W3,hW3⟩:∃ W,W=wh.setCell ⟨gm,4,none⟩ (.string (tl.extract q tl.size)):=⟨_,rfl⟩
    rw[← hW3]at HG' HB' HK'
    rw[← hW3]
    clear hW3
    obtain⟨tl2,htl2⟩:∃ b,b=tl.extract q tl.size:=⟨_,rfl⟩
    rw[← htl2]at HG' HTL
    clear htl2
    go_upto_region 19 with fail
    have HD:=Hq HB'.out.drew
    have X0:=HD.out.get0
    have Y0:=blkOld HG'.out (Below.refl _ W3).drew
    refine wp_region_held_drew (S:=(fun u=>u.heap[w.heap.size]? =some (.cells #[.slice A2 d2.sectors.length c2,d2.left,d2.down] 29 (0,0))∧u.heap[gm]? =some (.cells #[fr,n,en,en,tl2] 31 (0,0)))) Kr ?_ (fun hHeld=>?_)
    ·first|exact hSn|exact⟨X0,Y0⟩
    refine tkV 0 (some 99) (v:=.agg #[.slice A2 d2.sectors.length c2,d2.left,d2.down]) rfl (yieldsIf_load_mid (by rfl) 29 (.tmp 2) rfl w.heap.size 0 (by rfl) #[.slice A2 d2.sectors.length c2,.int .i64 d2.left,.bool d2.down].toList _ (fun u hu=>(by intro j v hj;rw[Nat.zero_add,blkCell hu.1];simpa using hj)) Tryz.underlying29 Kr Kr) ?_
    try simp only[Act.put,pS]
    refine tkV 1 (some 100) (v:=.agg #[fr,n,en,en,tl2]) rfl (yieldsIf_load_mid (by rfl) 31 (.tmp 13) rfl gm 0 (by rfl) #[.int .i64 fr,.int .i64 n,.int .i64 en,.int .i64 en,.string tl2].toList _ (fun u hu=>(by intro j v hj;rw[Nat.zero_add,blkCell hu.2];simpa using hj)) Tryz.underlying31 Kr Kr) ?_
    try simp only[Act.put,pS]
    refine rdH 2 none rfl (fun K hK=>?_)
    refine wantedIf (by rfl) ?_
    refine wp_store_whole 29 (.tmp 4) (.tmp 99) rfl (w.heap.size+2) #[.slice A2 d2.sectors.length c2,d2.left,d2.down] _ _ rfl rfl (HD.out.get 2 _ rfl) Kr Kr Kr ?_
    have HE:=Hq (HD.out.row 2 #[.slice A2 d2.sectors.length c2,d2.left,d2.down] _ rfl)
    have X1:=HE.out.get0
    have Y1:=((heap_setRow_other _ (w.heap.size+2) #[.slice A2 d2.sectors.length c2,d2.left,d2.down] gm (by omega)).trans Y0)
    have hSn:=And.intro X1 Y1
    refine hK.out _ _ ?_ (fun hHeld=>?_)
    ·first|exact hSn|exact⟨X0,Y0⟩
    clear hK K
    try simp only[Act.put]
    refine rdH 3 none rfl (fun K hK=>?_)
    refine wantedIf (by rfl) ?_
    refine wp_store_whole 31 (.tmp 5) (.tmp 100) rfl (w.heap.size+3) #[fr,n,en,en,tl2] _ _ rfl rfl (HE.out.get 3 _ rfl) Kr Kr Kr ?_
    have HG:=Hq (HE.out.row 3 #[fr,n,en,en,tl2] _ rfl)
    try clear hSn
    have hSn:=And.intro HG.out.get0 ((heap_setRow_other _ (w.heap.size+3) #[fr,n,en,en,tl2] gm (by omega)).trans Y1)
    refine hK.out _ _ ?_ (fun hHeld=>?_)
    ·first|exact hSn|exact⟨X0,Y0⟩
    clear hK K
    try simp only[Act.put]
    refine tkW 4 (some 6) (v:=?_) rfl ?_ ?_
    rotate_left
    ·intro u hSu;clear hSu;go_simp;(try with_reducible rfl)
    try simp only[Act.put,pS]
    refine wpAnyH_done Kr ?_ _
    clear hHeld hSn
    go_wp2_with fail
    refine bodyPost_ret (v:=.tuple #[.agg #[.slice A2 d2.sectors.length c2,d2.left,d2.down],.agg #[fr,n,en,en,tl2],()]) (results_cells rfl _ _ rfl rfl (load_whole (HG.out.get 2 _ rfl) Tryz.underlying29 Kr Kr) (load_whole (HG.out.get 3 _ rfl) Tryz.underlying31 Kr Kr) rfl) rfl ?_
    have k1:=HK'.out.below (Below.refl _ W3).drew
    have k2:=k1.row (HD.out.get 2 _ rfl) (by decide) #[.slice A2 d2.sectors.length c2,d2.left,d2.down]
    exact HO.out A2 c2 _ (d2,⟨fr,n,en,en,tl2⟩,0) (HFIN.out.trans (by rw[HTL.out])) (k2.row (HE.out.get 3 _ rfl) (by decide) _) HG.out.below
   ·obtain⟨k,rfl⟩:=Int.eq_ofNat_of_zero_le (show 0≤x by omega)
    have hkm:k≤m:=by omega
    have hk0:(0:Int)≤(k:Int):=by omega
    rw[show((k:Int)+1).toNat=k+1 by omega]at HPUT
    have HPK:=Hq (fun W=>HPC.out k hkm W)
    generalize hy:all[k]?.getD ⟨#[]⟩=y at HPK
    have HWR:=Hq (fun W hW=>rwrite_any d2 HLB2.out A2 c2 (fr+F+(k:Int)) y W hW)
    have hwl2:= @Lg.writeD_left d2 (fr+F+(k:Int)) y HLB2.out
    rcases hx:Lg.writeD d2 (fr+F+(k:Int)) y with⟨d3,e3⟩
    have HGO:=Hq (fun(he:e3=0)=>Lg.putAll_go (base:=fr+F) (all:=all) (k:=k) (d:=d2) (d2:=d3) (by rw[hy,hx,he]))
    have HSTP:=Hq (fun(he:e3≠0)=>Lg.putAll_stop (base:=fr+F) (all:=all) (k:=k) (d:=d2) (d2:=d3) he (by rw[hy,hx]))
    rw[hx]at HWR hwl2
    simp only at hwl2
    have HWL:=Hq hwl2
    clear hx hwl2 h0 hy
    have hs1:IntKind.i64.wrap (fr+F)=fr+F:=IntWalk.i64_in _ (by omega)
    have hs2:IntKind.i64.wrap (fr+F+(k:Int))=fr+F+(k:Int):=IntWalk.i64_in _ (by omega)
    go_upto_region 12 with fail
    go_cut [11,12] (fun p q wc=>∃ (g:Nat) (A3:Option Addr) (c3:Nat),p= .pointer (some ⟨g,0,none⟩)∧q= .int .i64 e3∧BxL w.heap.size w [(#[.slice A2 d2.sectors.length c2,d2.left,d2.down],29),(#[fr,n,en,sf,tl],31),(#["s",(),false],29),(#[(),(),(),(),""],31)] wc∧w.heap.size+4≤g∧wc.heap[g]? =some (.cells #[.slice A3 d3.sectors.length c3,d3.left,d3.down] 29 (0,0))∧DkR w.heap.size wc d3 A A3 c3)
    case first=>
     have HB:=HBX
     have HK:=HDK
     clear HBX HDK HGO HSTP HO HST HAL HPC HFM HTL HQ1 HQ2 HQ3 HQ4 HPUT
     have HB:=Hq HB.out.drew
     have HK:=Hq (HK.out.below (Below.refl _ wr).drew)
     refine wp_region_held_drew (S:=(fun u=>u.heap[w.heap.size]? =some (.cells #[.slice A2 d2.sectors.length c2,d2.left,d2.down] 29 (0,0))∧u.heap[w.heap.size+1]? =some (.cells #[fr,n,en,sf,tl] 31 (0,0)))) Kr ?_ (fun hHeld=>?_)
     ·exact⟨HB.out.get0,HB.out.get1⟩
     refine tkV 0 (some 60) (v:=.agg #[.slice A2 d2.sectors.length c2,d2.left,d2.down]) rfl (yieldsIf_load_mid (by rfl) 29 (.tmp 2) rfl w.heap.size 0 (by rfl) #[.slice A2 d2.sectors.length c2,.int .i64 d2.left,.bool d2.down].toList _ (fun u hu=>(by intro j v hj;rw[Nat.zero_add,blkCell hu.1];simpa using hj)) Tryz.underlying29 Kr Kr) ?_
     try simp only[Act.put,pS]
     refine tkW 1 (some 61) (v:=?_) rfl ?_ (tkW 2 (some 62) (v:=?_) rfl ?_ ?_)
     iterate 2 (rotate_left;focus(intro u hSu;have hSa:=blkCell hSu.1;have hSb:=blkCell hSu.2;clear hSu;go_simp;(try with_reducible rfl)))
     try simp only[Act.put,pS]
     refine tkV 3 (some 63) (v:=.agg #[fr,n,en,sf,tl]) rfl (yieldsIf_load_mid (by rfl) 31 (.tmp 3) rfl (w.heap.size+1) 0 (by rfl) #[.int .i64 fr,.int .i64 n,.int .i64 en,.int .i64 sf,.string tl].toList _ (fun u hu=>(by intro j v hj;rw[Nat.zero_add,blkCell hu.2];simpa using hj)) Tryz.underlying31 Kr Kr) ?_
     try simp only[Act.put,pS]
     refine tkW 6 (some 66) (v:=?_) rfl ?_ (tkW 8 (some 68) (v:=?_) rfl ?_ (tkW 9 (some 69) (v:=?_) rfl ?_ (tkW 10 (some 70) (v:=?_) rfl ?_ ?_)))
     iterate 4 (rotate_left;focus(intro u hSu;have hSa:=blkCell hSu.1;have hSb:=blkCell hSu.2;clear hSu;go_simp;(try with_reducible rfl)))
     try simp only[Act.put,pS]
     refine wpAnyH_ready (rs:=[4,16]) Kr (by simp) ?_
     refine(AllReadyH.cons (o:={dst:=some 64,op:=_,type:=_,pos:=_,after:=_,guard:=_}) rfl (fun K hK=>?_) (AllReadyH.cons (o:={dst:=some 11,op:=_,type:=_,pos:=_,after:=_,guard:=_}) rfl (fun K hK=>?_) AllReadyH.nil))
     ·
      go_simp
      refine(HFI.out _).mono ?_;rintro e wf ⟨rfl,hb5⟩;have HK:=Hq (HK.out.below hb5);have HB:=Hq (HB.out.step hb5);clear hb5;(try clear hSn);have hSn:=And.intro HB.out.get0 HB.out.get1
      refine hK.out _ _ ?_ (fun hHeld=>?_)
      ·exact hSn
      clear hK K
      try simp only[Act.put,pS]
      refine tkW 5 (some 65) (v:=?_) rfl ?_ (tkW 7 (some 67) (v:=?_) rfl ?_ ?_)
      iterate 2 (rotate_left;focus(intro u hSu;have hSa:=blkCell hSu.1;have hSb:=blkCell hSu.2;clear hSu;go_simp;(try with_reducible rfl)))
      try simp only[Act.put,pS]
      refine wpAnyH_ready (rs:=[11,16]) Kr (by simp) ?_
      refine(AllReadyH.cons (o:={dst:=some 71,op:=_,type:=_,pos:=_,after:=_,guard:=_}) rfl (fun K hK=>?_) (AllReadyH.cons (o:={dst:=some 11,op:=_,type:=_,pos:=_,after:=_,guard:=_}) rfl (fun K hK=>?_) AllReadyH.nil))
      ·
       go_simp
       refine(HPK.out _).mono ?_;rintro e wm ⟨rfl,hb5⟩;have HK:=Hq (HK.out.below hb5);have HB:=Hq (HB.out.step hb5);clear hb5;(try clear hSn);have hSn:=And.intro HB.out.get0 HB.out.get1
       refine hK.out _ _ ?_ (fun hHeld=>?_)
       ·exact hSn
       clear hK K
       try simp only[Act.put,pS]
       refine wpAnyH_ready (rs:=[12,16]) Kr (by simp) ?_
       refine(AllReadyH.cons (o:={dst:=some 72,op:=_,type:=_,pos:=_,after:=_,guard:=_}) rfl (fun K hK=>?_) (AllReadyH.cons (o:={dst:=some 11,op:=_,type:=_,pos:=_,after:=_,guard:=_}) rfl (fun K hK=>?_) AllReadyH.nil))
       ·
        go_simp
        refine(HWR.out _ HK.out.dk).mono ?_;rintro e ww ⟨A3,c3,rfl,hd5,ha5,hb5⟩;have HK:=Hq (HK.out.put (by have:=HB.out.lt (i:=3) (by simp);omega) hd5 ha5 hb5);have HB:=Hq (HB.out.step hb5);clear hb5 hd5 ha5;(try clear hSn);have hSn:=And.intro HB.out.get0 HB.out.get1
        refine hK.out _ _ ?_ (fun hHeld=>?_)
        ·exact hSn
        clear hK K
        refine tkW 13 (some 59) (v:=?_) rfl ?_ (tkW 14 (some 73) (v:=?_) rfl ?_ (tkW 15 (some 74) (v:=?_) rfl ?_ ?_))
        iterate 3 (rotate_left;focus(intro u hSu;have hSa:=blkCell hSu.1;have hSb:=blkCell hSu.2;clear hSu;go_simp;(try with_reducible rfl)))
        try simp only[Act.put,pS]
        refine rdH 16 (some 11) rfl (fun K hK=>?_)
        go_simp
        have hg4:w.heap.size+4≤ww.heap.size:=HB.out.lt (i:=3) (by simp);have HK:=Hq (HK.out.below (allocB ww (.cells #["s",(),false] 29)));have HB:=Hq (HB.out.step (allocB ww (.cells #["s",(),false] 29)));have HG:=Hq (heap_alloc_new ww (.cells #["s",(),false] 29));(try clear hSn);have hSn:=And.intro HB.out.get0 HB.out.get1
        refine hK.out _ _ ?_ (fun hHeld=>?_)
        ·exact hSn
        clear hK K
        try simp only[Act.put,pS]
        refine rdH 17 none rfl (fun K hK=>?_)
        refine wantedIf (by rfl) ?_
        refine wp_store_whole 29 (.tmp 11) (.tmp 73) rfl ww.heap.size #[.slice A3 d3.sectors.length c3,d3.left,d3.down] _ _ rfl rfl HG.out Kr Kr Kr ?_
        have HK:=Hq (HK.out.row HG.out (by decide) #[.slice A3 d3.sectors.length c3,d3.left,d3.down])
        have HB:=Hq (HB.out.under (M:=ww.heap.size) (by show w.heap.size+4≤_;exact hg4) (below_setRow (Below.refl ww.heap.size (ww.alloc (.cells #["s",(),false] 29))) (Nat.le_refl ww.heap.size) #[.slice A3 d3.sectors.length c3,d3.left,d3.down]))
        have HG:=Hq (show((ww.alloc (.cells #["s",(),false] 29)).setRow ww.heap.size #[.slice A3 d3.sectors.length c3,d3.left,d3.down]).heap[ww.heap.size]? =some (.cells #[.slice A3 d3.sectors.length c3,d3.left,d3.down] 29 (0,0))from setRow_heap _ _ _ _ _ _ HG.out)
        (try clear hSn);have hSn:=And.intro HB.out.get0 HB.out.get1
        refine hK.out _ _ ?_ (fun hHeld=>?_)
        ·exact hSn
        clear hK K
        try simp only[Act.put]
        refine tkW 18 (some 12) (v:=?_) rfl ?_ ?_
        rotate_left
        ·intro u hSu;have hSa:=blkCell hSu.1;have hSb:=blkCell hSu.2;clear hSu;go_simp;(try with_reducible rfl)
        try simp only[Act.put,pS]
        refine wpAnyH_done Kr ?_ _
        clear hHeld hSn
        go_wp2_with fail
        go_meet
        case rel=>exact⟨_,A3,c3,rfl,rfl,HB.out,hg4,HG.out,HK.out⟩
       ·
        go_simp
        have hg4:w.heap.size+4≤wm.heap.size:=HB.out.lt (i:=3) (by simp);have HK:=Hq (HK.out.below (allocB wm (.cells #["s",(),false] 29)));have HB:=Hq (HB.out.step (allocB wm (.cells #["s",(),false] 29)));have HG:=Hq (heap_alloc_new wm (.cells #["s",(),false] 29));(try clear hSn);have hSn:=And.intro HB.out.get0 HB.out.get1
        refine hK.out _ _ ?_ (fun hHeld=>?_)
        ·exact hSn
        clear hK K
        try simp only[Act.put,pS]
        refine rdH 12 (some 72) rfl (fun K hK=>?_)
        go_simp
        refine(HWR.out _ HK.out.dk).mono ?_;rintro e ww ⟨A3,c3,rfl,hd5,ha5,hb5⟩;have HK:=Hq (HK.out.put (by have:=HB.out.lt (i:=3) (by simp);omega) hd5 ha5 hb5);have HB:=Hq (HB.out.step hb5);have HG:=Hq (blkOld HG.out hb5);clear hb5 hd5 ha5;(try clear hSn);have hSn:=And.intro HB.out.get0 HB.out.get1
        refine hK.out _ _ ?_ (fun hHeld=>?_)
        ·exact hSn
        clear hK K
        refine tkW 13 (some 59) (v:=?_) rfl ?_ (tkW 14 (some 73) (v:=?_) rfl ?_ (tkW 15 (some 74) (v:=?_) rfl ?_ ?_))
        iterate 3 (rotate_left;focus(intro u hSu;have hSa:=blkCell hSu.1;have hSb:=blkCell hSu.2;clear hSu;go_simp;(try with_reducible rfl)))
        try simp only[Act.put,pS]
        refine rdH 17 none rfl (fun K hK=>?_)
        refine wantedIf (by rfl) ?_
        refine wp_store_whole 29 (.tmp 11) (.tmp 73) rfl wm.heap.size #[.slice A3 d3.sectors.length c3,d3.left,d3.down] _ _ rfl rfl HG.out Kr Kr Kr ?_
        have HK:=Hq (HK.out.row HG.out (by decide) #[.slice A3 d3.sectors.length c3,d3.left,d3.down])
        have HB:=Hq (HB.out.under (M:=wm.heap.size) (by show w.heap.size+4≤_;exact hg4) (below_setRow (Below.refl wm.heap.size ww) (Nat.le_refl wm.heap.size) #[.slice A3 d3.sectors.length c3,d3.left,d3.down]))
        have HG:=Hq (show(ww.setRow wm.heap.size #[.slice A3 d3.sectors.length c3,d3.left,d3.down]).heap[wm.heap.size]? =some (.cells #[.slice A3 d3.sectors.length c3,d3.left,d3.down] 29 (0,0))from setRow_heap _ _ _ _ _ _ HG.out)
        (try clear hSn);have hSn:=And.intro HB.out.get0 HB.out.get1
        refine hK.out _ _ ?_ (fun hHeld=>?_)
        ·exact hSn
        clear hK K
        try simp only[Act.put]
        refine tkW 18 (some 12) (v:=?_) rfl ?_ ?_
        rotate_left
        ·intro u hSu;have hSa:=blkCell hSu.1;have hSb:=blkCell hSu.2;clear hSu;go_simp;(try with_reducible rfl)
        try simp only[Act.put,pS]
        refine wpAnyH_done Kr ?_ _
        clear hHeld hSn
        go_wp2_with fail
        go_meet
        case rel=>exact⟨_,A3,c3,rfl,rfl,HB.out,hg4,HG.out,HK.out⟩
      ·
       go_simp
       have hg4:w.heap.size+4≤wf.heap.size:=HB.out.lt (i:=3) (by simp);have HK:=Hq (HK.out.below (allocB wf (.cells #["s",(),false] 29)));have HB:=Hq (HB.out.step (allocB wf (.cells #["s",(),false] 29)));have HG:=Hq (heap_alloc_new wf (.cells #["s",(),false] 29));(try clear hSn);have hSn:=And.intro HB.out.get0 HB.out.get1
       refine hK.out _ _ ?_ (fun hHeld=>?_)
       ·exact hSn
       clear hK K
       try simp only[Act.put,pS]
       refine rdH 11 (some 71) rfl (fun K hK=>?_)
       go_simp
       refine(HPK.out _).mono ?_;rintro e wm ⟨rfl,hb5⟩;have HK:=Hq (HK.out.below hb5);have HB:=Hq (HB.out.step hb5);have HG:=Hq (blkOld HG.out hb5);clear hb5;(try clear hSn);have hSn:=And.intro HB.out.get0 HB.out.get1
       refine hK.out _ _ ?_ (fun hHeld=>?_)
       ·exact hSn
       clear hK K
       try simp only[Act.put,pS]
       refine rdH 12 (some 72) rfl (fun K hK=>?_)
       go_simp
       refine(HWR.out _ HK.out.dk).mono ?_;rintro e ww ⟨A3,c3,rfl,hd5,ha5,hb5⟩;have HK:=Hq (HK.out.put (by have:=HB.out.lt (i:=3) (by simp);omega) hd5 ha5 hb5);have HB:=Hq (HB.out.step hb5);have HG:=Hq (blkOld HG.out hb5);clear hb5 hd5 ha5;(try clear hSn);have hSn:=And.intro HB.out.get0 HB.out.get1
       refine hK.out _ _ ?_ (fun hHeld=>?_)
       ·exact hSn
       clear hK K
       refine tkW 13 (some 59) (v:=?_) rfl ?_ (tkW 14 (some 73) (v:=?_) rfl ?_ (tkW 15 (some 74) (v:=?_) rfl ?_ ?_))
       iterate 3 (rotate_left;focus(intro u hSu;have hSa:=blkCell hSu.1;have hSb:=blkCell hSu.2;clear hSu;go_simp;(try with_reducible rfl)))
       try simp only[Act.put,pS]
       refine rdH 17 none rfl (fun K hK=>?_)
       refine wantedIf (by rfl) ?_
       refine wp_store_whole 29 (.tmp 11) (.tmp 73) rfl wf.heap.size #[.slice A3 d3.sectors.length c3,d3.left,d3.down] _ _ rfl rfl HG.out Kr Kr Kr ?_
       have HK:=Hq (HK.out.row HG.out (by decide) #[.slice A3 d3.sectors.length c3,d3.left,d3.down])
       have HB:=Hq (HB.out.under (M:=wf.heap.size) (by show w.heap.size+4≤_;exact hg4) (below_setRow (Below.refl wf.heap.size ww) (Nat.le_refl wf.heap.size) #[.slice A3 d3.sectors.length c3,d3.left,d3.down]))
       have HG:=Hq (show(ww.setRow wf.heap.size #[.slice A3 d3.sectors.length c3,d3.left,d3.down]).heap[wf.heap.size]? =some (.cells #[.slice A3 d3.sectors.length c3,d3.left,d3.down] 29 (0,0))from setRow_heap _ _ _ _ _ _ HG.out)
       (try clear hSn);have hSn:=And.intro HB.out.get0 HB.out.get1
       refine hK.out _ _ ?_ (fun hHeld=>?_)
       ·exact hSn
       clear hK K
       try simp only[Act.put]
       refine tkW 18 (some 12) (v:=?_) rfl ?_ ?_
       rotate_left
       ·intro u hSu;have hSa:=blkCell hSu.1;have hSb:=blkCell hSu.2;clear hSu;go_simp;(try with_reducible rfl)
       try simp only[Act.put,pS]
       refine wpAnyH_done Kr ?_ _
       clear hHeld hSn
       go_wp2_with fail
       go_meet
       case rel=>exact⟨_,A3,c3,rfl,rfl,HB.out,hg4,HG.out,HK.out⟩
     ·
      go_simp
      have hg4:w.heap.size+4≤wr.drew.heap.size:=HB.out.lt (i:=3) (by simp);have HK:=Hq (HK.out.below (allocB wr.drew (.cells #["s",(),false] 29)));have HB:=Hq (HB.out.step (allocB wr.drew (.cells #["s",(),false] 29)));have HG:=Hq (heap_alloc_new wr.drew (.cells #["s",(),false] 29));(try clear hSn);have hSn:=And.intro HB.out.get0 HB.out.get1
      refine hK.out _ _ ?_ (fun hHeld=>?_)
      ·exact hSn
      clear hK K
      try simp only[Act.put,pS]
      refine rdH 4 (some 64) rfl (fun K hK=>?_)
      go_simp
      refine(HFI.out _).mono ?_;rintro e wf ⟨rfl,hb5⟩;have HK:=Hq (HK.out.below hb5);have HB:=Hq (HB.out.step hb5);have HG:=Hq (blkOld HG.out hb5);clear hb5;(try clear hSn);have hSn:=And.intro HB.out.get0 HB.out.get1
      refine hK.out _ _ ?_ (fun hHeld=>?_)
      ·exact hSn
      clear hK K
      try simp only[Act.put,pS]
      refine tkW 5 (some 65) (v:=?_) rfl ?_ (tkW 7 (some 67) (v:=?_) rfl ?_ ?_)
      iterate 2 (rotate_left;focus(intro u hSu;have hSa:=blkCell hSu.1;have hSb:=blkCell hSu.2;clear hSu;go_simp;(try with_reducible rfl)))
      try simp only[Act.put,pS]
      refine rdH 11 (some 71) rfl (fun K hK=>?_)
      go_simp
      refine(HPK.out _).mono ?_;rintro e wm ⟨rfl,hb5⟩;have HK:=Hq (HK.out.below hb5);have HB:=Hq (HB.out.step hb5);have HG:=Hq (blkOld HG.out hb5);clear hb5;(try clear hSn);have hSn:=And.intro HB.out.get0 HB.out.get1
      refine hK.out _ _ ?_ (fun hHeld=>?_)
      ·exact hSn
      clear hK K
      try simp only[Act.put,pS]
      refine rdH 12 (some 72) rfl (fun K hK=>?_)
      go_simp
      refine(HWR.out _ HK.out.dk).mono ?_;rintro e ww ⟨A3,c3,rfl,hd5,ha5,hb5⟩;have HK:=Hq (HK.out.put (by have:=HB.out.lt (i:=3) (by simp);omega) hd5 ha5 hb5);have HB:=Hq (HB.out.step hb5);have HG:=Hq (blkOld HG.out hb5);clear hb5 hd5 ha5;(try clear hSn);have hSn:=And.intro HB.out.get0 HB.out.get1
      refine hK.out _ _ ?_ (fun hHeld=>?_)
      ·exact hSn
      clear hK K
      refine tkW 13 (some 59) (v:=?_) rfl ?_ (tkW 14 (some 73) (v:=?_) rfl ?_ (tkW 15 (some 74) (v:=?_) rfl ?_ ?_))
      iterate 3 (rotate_left;focus(intro u hSu;have hSa:=blkCell hSu.1;have hSb:=blkCell hSu.2;clear hSu;go_simp;(try with_reducible rfl)))
      try simp only[Act.put,pS]
      refine rdH 17 none rfl (fun K hK=>?_)
      refine wantedIf (by rfl) ?_
      refine wp_store_whole 29 (.tmp 11) (.tmp 73) rfl wr.drew.heap.size #[.slice A3 d3.sectors.length c3,d3.left,d3.down] _ _ rfl rfl HG.out Kr Kr Kr ?_
      have HK:=Hq (HK.out.row HG.out (by decide) #[.slice A3 d3.sectors.length c3,d3.left,d3.down])
      have HB:=Hq (HB.out.under (M:=wr.drew.heap.size) (by show w.heap.size+4≤_;exact hg4) (below_setRow (Below.refl wr.drew.heap.size ww) (Nat.le_refl wr.drew.heap.size) #[.slice A3 d3.sectors.length c3,d3.left,d3.down]))
      have HG:=Hq (show(ww.setRow wr.drew.heap.size #[.slice A3 d3.sectors.length c3,d3.left,d3.down]).heap[wr.drew.heap.size]? =some (.cells #[.slice A3 d3.sectors.length c3,d3.left,d3.down] 29 (0,0))from setRow_heap _ _ _ _ _ _ HG.out)
      (try clear hSn);have hSn:=And.intro HB.out.get0 HB.out.get1
      refine hK.out _ _ ?_ (fun hHeld=>?_)
      ·exact hSn
      clear hK K
      try simp only[Act.put]
      refine tkW 18 (some 12) (v:=?_) rfl ?_ ?_
      rotate_left
      ·intro u hSu;have hSa:=blkCell hSu.1;have hSb:=blkCell hSu.2;clear hSu;go_simp;(try with_reducible rfl)
      try simp only[Act.put,pS]
      refine wpAnyH_done Kr ?_ _
      clear hHeld hSn
      go_wp2_with fail
      go_meet
      case rel=>exact⟨_,A3,c3,rfl,rfl,HB.out,hg4,HG.out,HK.out⟩
    case rest=>
     obtain⟨g,A3,c3,rfl,rfl,hb3,hg4,hg3,hk3⟩:=hcut
     obtain⟨wb,rfl⟩:∃ wm:World,wm=wc:=⟨_,rfl⟩
     have HB3:=Hq hb3
     have HG3:=Hq hg3
     have HK3:=Hq hk3
     clear hb3 hg3 hk3 HBX HDK HWR hs1 hs2
     by_cases he:e3=0
     ·have HGG:=Hq (HPUT.out.trans (HGO.out he))
      subst he
      clear HGO HSTP
      go_upto_region 11 with(first
       |(with_reducible refine listLoad Kr 29 (.tmp 11) rfl g rfl #[.slice A3 d3.sectors.length c3,d3.left,d3.down] _ HG3.out _ Tryz.underlying29 Kr Kr ?_)
       |(with_reducible refine listStore Kr 29 (.tmp 2) (.tmp 80) rfl w.heap.size #[.slice A3 d3.sectors.length c3,d3.left,d3.down] _ _ rfl rfl HB3.out.get0 Kr Kr Kr ?_))
      have HB4:=Hq (show BxL w.heap.size w [(#[.slice A3 d3.sectors.length c3,d3.left,d3.down],29),(#[fr,n,en,sf,tl],31),(#["s",(),false],29),(#[(),(),(),(),""],31)] (wb.setRow w.heap.size #[.slice A3 d3.sectors.length c3,d3.left,d3.down])from by have h:=HB3.out.row 0 #[.slice A3 d3.sectors.length c3,d3.left,d3.down] _ rfl;simpa using h)
      have HK4:=Hq (HK3.out.row HB3.out.get0 (by decide) #[.slice A3 d3.sectors.length c3,d3.left,d3.down])
      obtain⟨W4,hW4⟩:∃ W,W=wb.setRow w.heap.size #[.slice A3 d3.sectors.length c3,d3.left,d3.down]:=⟨_,rfl⟩
      rw[← hW4]at HB4 HK4
      rw[← hW4]
      clear hW4 HB3 HG3 HK3
      have hwk:IntKind.i64.wrap ((k:Int)-1)=(k:Int)-1:=IntWalk.i64_in _ (by omega)
      go_wp2_with fail
      go_roundw
      case rel=>exact⟨(k:Int)-1,d3,A3,c3,rfl,by omega,by omega,by rw[show((k:Int)-1+1).toNat=k by omega];exact HGG.out,HB4.out,HK4.out,HWL.out⟩
      case measure=>first|(simp[intOf];done)|(simp[intOf];omega)
     ·have HFIN:=Hq (HST.out d3 e3 he (HPUT.out.trans (HSTP.out he)))
      have he1:(e3==0)=false:=by simpa using he
      have he2:(e3 != 0)=true:=by simpa using he
      clear HGO HSTP he
      go_upto_region 14 with fail
      clear he1 he2
      have HD:=Hq HB3.out.drew
      have X0:=blkOld HG3.out (Below.refl _ wb).drew
      have Y0:=HD.out.get1
      refine wp_region_held_drew (S:=(fun u=>u.heap[g]? =some (.cells #[.slice A3 d3.sectors.length c3,d3.left,d3.down] 29 (0,0))∧u.heap[(w.heap.size+1)]? =some (.cells #[fr,n,en,sf,tl] 31 (0,0)))) Kr ?_ (fun hHeld=>?_)
      ·first|exact hSn|exact⟨X0,Y0⟩
      refine tkV 0 (some 77) (v:=.agg #[.slice A3 d3.sectors.length c3,d3.left,d3.down]) rfl (yieldsIf_load_mid (by rfl) 29 (.tmp 11) rfl g 0 (by rfl) #[.slice A3 d3.sectors.length c3,.int .i64 d3.left,.bool d3.down].toList _ (fun u hu=>(by intro j v hj;rw[Nat.zero_add,blkCell hu.1];simpa using hj)) Tryz.underlying29 Kr Kr) ?_
      try simp only[Act.put,pS]
      refine tkV 1 (some 78) (v:=.agg #[fr,n,en,sf,tl]) rfl (yieldsIf_load_mid (by rfl) 31 (.tmp 3) rfl (w.heap.size+1) 0 (by rfl) #[.int .i64 fr,.int .i64 n,.int .i64 en,.int .i64 sf,.string tl].toList _ (fun u hu=>(by intro j v hj;rw[Nat.zero_add,blkCell hu.2];simpa using hj)) Tryz.underlying31 Kr Kr) ?_
      try simp only[Act.put,pS]
      refine tkW 2 (some 79) (v:=?_) rfl ?_ ?_
      rotate_left
      ·intro u hSu;clear hSu;go_simp;(try with_reducible rfl)
      try simp only[Act.put,pS]
      refine rdH 3 none rfl (fun K hK=>?_)
      refine wantedIf (by rfl) ?_
      refine wp_store_whole 29 (.tmp 4) (.tmp 77) rfl (w.heap.size+2) #[.slice A3 d3.sectors.length c3,d3.left,d3.down] _ _ rfl rfl (HD.out.get 2 _ rfl) Kr Kr Kr ?_
      have HE:=Hq (HD.out.row 2 #[.slice A3 d3.sectors.length c3,d3.left,d3.down] _ rfl)
      have X1:=((heap_setRow_other _ (w.heap.size+2) #[.slice A3 d3.sectors.length c3,d3.left,d3.down] g (by omega)).trans X0)
      have Y1:=HE.out.get1
      have hSn:=And.intro X1 Y1
      refine hK.out _ _ ?_ (fun hHeld=>?_)
      ·first|exact hSn|exact⟨X0,Y0⟩
      clear hK K
      try simp only[Act.put]
      refine rdH 4 none rfl (fun K hK=>?_)
      refine wantedIf (by rfl) ?_
      refine wp_store_whole 31 (.tmp 5) (.tmp 78) rfl (w.heap.size+3) #[fr,n,en,sf,tl] _ _ rfl rfl (HE.out.get 3 _ rfl) Kr Kr Kr ?_
      have HG:=Hq (HE.out.row 3 #[fr,n,en,sf,tl] _ rfl)
      try clear hSn
      have hSn:=And.intro ((heap_setRow_other _ (w.heap.size+3) #[fr,n,en,sf,tl] g (by omega)).trans X1) HG.out.get1
      refine hK.out _ _ ?_ (fun hHeld=>?_)
      ·first|exact hSn|exact⟨X0,Y0⟩
      clear hK K
      try simp only[Act.put]
      refine tkW 5 (some 6) (v:=?_) rfl ?_ ?_
      rotate_left
      ·intro u hSu;clear hSu;go_simp;(try with_reducible rfl)
      try simp only[Act.put,pS]
      refine wpAnyH_done Kr ?_ _
      clear hHeld hSn
      go_wp2_with fail
      refine bodyPost_ret (v:=.tuple #[.agg #[.slice A3 d3.sectors.length c3,d3.left,d3.down],.agg #[fr,n,en,sf,tl],e3]) (results_cells rfl _ _ rfl rfl (load_whole (HG.out.get 2 _ rfl) Tryz.underlying29 Kr Kr) (load_whole (HG.out.get 3 _ rfl) Tryz.underlying31 Kr Kr) rfl) rfl ?_
      have k1:=HK3.out.below (Below.refl _ wb).drew
      have k2:=k1.row (HD.out.get 2 _ rfl) (by decide) #[.slice A3 d3.sectors.length c3,d3.left,d3.down]
      exact HO.out A3 c3 _ (d3,⟨fr,n,en,sf,tl⟩,e3) HFIN.out (k2.row (HE.out.get 3 _ rfl) (by decide) _) HG.out.below
theorem rforce_any (d:Lg.Dk)(hlb: -9223372036854775808≤d.left∧d.left≤9223372036854775807)(A:Option Addr)(c:Nat)(l:Lg.Lo)(hal:Lg.Al l)(he1:l.end_≤1000000000)(hn0: -1000000000≤l.n)(hn1:l.n≤1000000000)(hf0: -1000000000≤l.from_)(hf1:l.from_≤1000000000)(ht:l.tail.size≤1000000)(w:World)(h:DiskR w d A c)(hT:NewT 0 w 9 A):
 Calls Tryz.prog 34 #[diskV d A c,logV l] w (ForceOut (Lg.forceD d l) A w):=by
 obtain⟨fr,n,en,sf,tl⟩:=l
 have h0:0≤sf:=hal.s0
 have h1:sf≤en:=hal.se
 have h2:en-(tl.size:Int)=sf-sf%128:=hal.tl
 by_cases hse:sf=en
 ·subst hse
  exact rforce_none d A c fr n sf tl _ (Lg.force_same rfl) w h
 ·exact rforce_go d hlb A c fr n en sf tl (by omega) h0 he1 hn0 hn1 hf0 hf1 ht h2 w h hT
end Go.Proofs.YtilakddepaplhaaGreat
