import Derived.Test.YtmfkhdhnbkambaaGreatDoorHw00
import Derived.Test.YtmfkhdhnbkambaaGreatDoorHw25
import Derived.Test.YtmfkhdhnbkambaaGreatDoorHw22
import Derived.Test.YtmfkhdhnbkambaaGreatDoorHw01
import Derived.Test.YtmfkhdhnbkambaaGreatDoorHw08
import Derived.Test.YtmfkhdhnbkambaaGreatDoorHw23
import Derived.Test.YtmfkhdhnbkambaaGreatDoorHw07
set_option maxRecDepth 100000
set_option maxHeartbeats 16000000
set_option linter.unusedSimpArgs false
namespace Go.Proofs.YtmfkhdhnbkambaaGreatDoor
open Go.RowKit Sc
theorem eO (s:Tx.St)(p:SP)(n:Nat)(d:s.zpages=(n:Int))(i:n≤60)(w:World):
 Cr 105 #[Ah s p] w (.int .i64 (((n+7)/8:Nat):Int)):=by
 have e:=Hq d;clear d;have f:IntKind.i64.wrap ((n:Int)+7)=(n:Int)+7:=IntWalk.i64_in _ (by omega);have g:Int.tdiv ((n:Int)+7) 8=(((n+7)/8:Nat):Int):=by rw[Int.tdiv_eq_ediv_of_nonneg (by omega)];omega
 have c:IntKind.i64.wrap (((n+7)/8:Nat):Int)=(((n+7)/8:Nat):Int):=IntWalk.i64_in _ (by omega);generalize (((n+7)/8:Nat):Int)=m at g c ⊢;go_enter Tryz.func105,Tryz.ntmps105;go_upto_region 1 with fail;have b:=bP w (Ak s p) 36;obtain⟨h,a⟩:=E0 b;rw[← a]at b ⊢;clear a;have j:=show h.cell? ⟨w.heap.size,1,none⟩=some (.int .i64 (n:Int))from by rw[Aa b.out.Ao,← e.out];rfl
 go_wp2_with fail;go_ret;exact⟨rfl,b.out.below⟩
theorem eP (s:Tx.St)(p:SP)(s2:Tx.St)(c:SP)(x:Int)(e:x≠20)(w:World):
 Cr 107 #[Ah s p,Ah s2 c,x] w (if x=0 then Ah s2 c else Ah s p):=by
 have f:(x==20)=false:=beq_eq_false_iff_ne.2 e
 by_cases d:x=0
 ·rw[if_pos d]
  have g:(x==0)=true:=by rw[d];rfl
  clear d e f;go_enter Tryz.func107,Tryz.ntmps107;go_upto_region 1 with fail;have a:=Ol w (Ak s p) 36 (Ak s2 c) 36 #[(),(),(),"s",(),false,(),(),(),(),"","s",(),"s",()] 36;obtain⟨h,b⟩:=E0 a;rw[← b]at a ⊢;clear b
  go_wp2_with(first|with_reducible refine lL a.out.Aq Ar ?_|with_reducible refine lS (Ak s2 c) a.out.Cd ?_)
  refine rT1 a.out.Cd Ar ?_;exact⟨rfl,(a.out.row 2 (Ak s2 c) _ rfl).below⟩
 ·rw[if_neg d]
  have g:(x==0)=false:=beq_eq_false_iff_ne.2 d;clear d e;go_enter Tryz.func107,Tryz.ntmps107;go_upto_region 1 with fail;have a:=Ol w (Ak s p) 36 (Ak s2 c) 36 #[(),(),(),"s",(),false,(),(),(),(),"","s",(),"s",()] 36;obtain⟨h,b⟩:=E0 a;rw[← b]at a ⊢;clear b
  go_wp2_with(first|with_reducible refine lL a.out.Ao Ar ?_|with_reducible refine lS (Ak s p) a.out.Cd ?_)
  refine rT1 a.out.Cd Ar ?_;exact⟨rfl,(a.out.row 2 (Ak s p) _ rfl).below⟩
theorem aV {N n k:Nat}{ids:List Int}{c:Int}(s:Tx.St)(p:SP)(fs:List Fr)(C:Nat→ByteArray)(B:SW N n k ids c s fs C)(D:c+1634≤(N:Int)*128)(t:Int)(E:t∈ids)(pg:Nat)(g:pg=0)(j:pg<n)(o:Rc.Op)(hk:o.kind=3∨o.kind=7)(m:o.new.size≤1000)(b:ByteArray)(F:uR o (C pg)=(b,0))
 (G:∀ l v,Rc.num l→Rc.num v→Rc.Bu (⟨l,v,t,2,(pg:Int),0,0,o,1,0,Rc.Ce,[],[]⟩:Rc.Rec)) (w:World) (h:Am w s p fs):
 Cq 151 #[Ah s p,t,.int .i64 (pg:Int),.agg #[o.kind,o.slot,o.By,o.new]] w (gS N n k ids (c+1634) C pg b w):=by
 have r:=Hq (fun W (I:Bw w W)=>eN s p fs C B D t E pg g j o b F G (fun J K R=>qD J ⟨o.kind,o.slot,o.By,o.new⟩ hk (by omega) (by simp only;omega) K) W (h.below I));clear B G F h D E m hk g;have H:=Hq (fun(d:Tx.St) (q:SP) (a:List Fr) (l:Int) w' L M O P=>show gS N n k ids (c+1634) C pg b w (.returned (.tuple #[Ah d q,()])) w' from⟨d,q,a,l,rfl,L,M,O,P⟩);generalize u:gS N n k ids (c+1634) C pg b w=Q at H ⊢;clear u;go_enter Tryz.func151,Tryz.ntmps151;go_upto_region 1 with fail;have f:=Ol w (Ak s p) 36 #[o.kind,o.slot,o.By,o.new] 42 #[(),(),(),"s",(),false,(),(),(),(),"","s",(),"s",()] 36;obtain⟨S,i⟩:=E0 f;rw[← i]at f ⊢;clear i
 go_wp2_with(first
  |with_reducible refine lL f.out.Ao Ar ?_
  |with_reducible refine lL f.out.Aq oE ?_
  |(go_at_call 193;refine(r.out _ f.out.below).mono ?_;rintro e T ⟨d,q,a,l,rfl,x,y,z,A⟩;have H1:=Hq (f.out.step A))
  |with_reducible refine lS (Ak d q) H1.out.Cd ?_)
 refine rT2 () H1.out.Cd Ar ?_;exact H.out d q a l _ (x.other (t:=36) H1.out.Cd (by decide) (by decide) (by decide) _) y z (H1.out.row 2 (Ak d q) _ rfl).below
def Qz (N n k:Nat)(ids:List Int)(c:Int)(C:Nat→ByteArray)(pg kind link:Nat)(Ai:List ByteArray)(w:World)(e:Ending)(w':World):Prop:=
 ∃ (s':Tx.St) (q:SP) (fs':List Fr) (C':Nat→ByteArray),e= .returned (.tuple #[Ah s' q,()])∧Am w' s' q fs'∧SW N n k ids c s' fs' C'∧Xq C C' pg kind link Ai∧Bw w w'
theorem mF {N n k:Nat}{ids:List Int}{c:Int}(s:Tx.St)(p:SP)(fs:List Fr)(C:Nat→ByteArray)(hS:SW N n k ids c s fs C)(hc:c+1634≤(N:Int)*128)(t:Int)(ht:t∈ids)(P:Rc.num t)(pg:Nat)(H:pg=0)(I:pg<n)(d:ByteArray)(y:Lu d)(h0:(Ab d).lsn=0)(w:World)(h:Am w s p fs):
 Cq 106 #[Ah s p,t,.int .i64 (pg:Int),d] w (Qz N n k ids (c+1634) C pg (Ab d).kind (Ab d).link (Ab d).Ai w):=by
 have R:=Hq (fun W (hb:Bw w W)=>tR s p fs C hS pg H I W (h.below hb));have A:=hS.ss.pi.nm pg I;have B:=qE A y h0;have aq:=hS.ss.pi.n1;have T:=Hq (fun W=>Ty (C pg) (by rw[A.size];omega) W);have J:=Hq (fun(s1:Tx.St) (p1:SP) (m:List Fr) (aa:SW N n k ids c s1 m C) W (hP:Am W s1 p1 m)=>show Cq 151 #[Ah s1 p1,t,.int .i64 (pg:Int),.agg #[.int .i64 7,(),.string (Bl (C pg) 0),d]] W _ from aV s1 p1 m C aa hc t ht pg H I ⟨7,0,Bl (C pg) 0,d⟩ (.inr rfl) (by show d.size≤1000;rw[y.size];omega) (Bl d ((Ab (C pg)).lsn:Nat)) B.1 (Xs (by have:=(Ii A.is (l:=0) (by omega)).2.2;rw[show((0:Nat):Int)=0 from rfl]at this;omega) (by rw[y.size];omega) t P (by omega) 7 ⟨by decide,by decide⟩) W hP);have HQ:=Hq (fun(f:Tx.St) (q:SP) (a:List Fr) (l:Int) w' h1 (h2:SW N n k ids (c+1634) f a (fun x=>if x=pg then Bl (Bl d ((Ab (C pg)).lsn:Nat)) l else C x)) (h3:Rc.num l) h4=>show Qz N n k ids (c+1634) C pg (Ab d).kind (Ab d).link (Ab d).Ai w (.returned (.tuple #[Ah f q,()])) w' from⟨f,q,a,_,rfl,h1,h2,by have h5:=Xr (C:=C) (pg:=pg) B.2.1 h3;rw[B.2.2]at h5;exact h5,h4⟩);generalize ad:Qz N n k ids (c+1634) C pg (Ab d).kind (Ab d).link (Ab d).Ai w=Q at HQ ⊢;clear ad B A h hc ht P y h0 hS H;generalize Bl d ((Ab (C pg)).lsn:Nat)=b9 at J HQ;generalize Bl (C pg) 0=z at T J;go_enter Tryz.func106,Tryz.ntmps106;go_upto_region 1 with fail;have L:=Lx w (Ak s p) 36 #[(),(),(),"s",(),false,(),(),(),(),"","s",(),"s",()] 36;obtain⟨W0,U⟩:=E0 L;rw[← U]at L ⊢;clear U
 go_upto_region 4 with(first
  |with_reducible refine lL L.out.Ao Ar ?_
  |(go_at_call 150;refine(R.out _ L.out.below).mono ?_;rintro e O ⟨s1,F,m,rfl,V,X,D⟩)
  |with_reducible refine sN (Ak s1 F) ?_)
 have Y:=D.trans ((Ac O (.cells (Ak s1 F) 36)).mono D.size);have H2:=Hq (L.out.step Y);have Z:=Hq (V.below (Ac O (.cells (Ak s1 F) 36)));have a1:=Hq (heap_alloc_new O (.cells (Ak s1 F) 36));have ae:=Hq X;have af:(w.heap.size+1)<O.heap.size:=Nat.lt_of_lt_of_le (L.out.lt (i:=1) (by simp)) D.size;obtain⟨g,hg⟩:=ex O.heap.size;obtain⟨w2,E⟩:=ex (O.alloc (.cells (Ak s1 F) 36));rw[← hg,← E]at a1;rw[← E]at H2 Z;rw[← E,← hg];rw[← hg]at af;clear E hg D Y V X L R
 try simp only[Act.put]
 go_cut [9] (fun x wc=>x= .int .i64 0∧∃ (f:Tx.St) (q:SP) (a:List Fr) (l:Int),wc.heap[(w.heap.size+1)]? =some (.cells (Ak f q) 36 (0,0))∧Am wc f q a∧SW N n k ids (c+1634) f a (fun x=>if x=pg then Bl b9 l else C x)∧Rc.num l∧Bw w wc)
 case first=>
  have M:=Hq (fun(u:World) (hu:Bw w2 u)=>show u.heap[g]? =some (.cells (Ak s1 F) 36 (0,0))from Af a1.out hu);have j:Bw w2 w2.drew:=(Below.refl _ w2).drew;have hSn:=M.out _ j;refine G7 (S:=(fun u=>u.heap[g]? =some (.cells (Ak s1 F) 36 (0,0)))) (fun b=>?_);generalize w2.drew=w8 at hSn j ⊢;refine fA 0 Ar ?_;refine Bb 1 ?_;refine Bb 2 ?_;refine Bb 3 ?_;refine Bb 5 ?_;refine Dg 4 fun K G=>?_
  go_simp
  (refine(T.out _).mono ?_);rintro e w9 ⟨rfl,o⟩;have r:=Ag j o;clear j hSn o;have j:=r;clear r;have hSn:=M.out _ j
  refine Cw G (fun b=>?_);clear G K;refine Bb 6 ?_;refine Dg 7 fun K G=>?_
  go_simp
  (refine(J.out s1 F m ae.out _ (Z.out.below j)).mono ?_);rintro e w9 ⟨f,q,a,l,rfl,ag,ah,ai,o⟩;have r:=Ag j o;clear j hSn o;have j:=r;clear r;have hSn:=M.out _ j;have H9:=H2.out.step j
  refine Cw G (fun b=>?_);clear G K;refine Bb 8 ?_;refine Bb 9 ?_;refine Dg 10 fun K G=>?_;refine Cc (by rfl) ?_;refine sW (Ak f q) H9.Aq ?_;have a6:=H9.row 1 (Ak f q) _ rfl;have a7:=ag.other (t:=36) H9.Aq (by decide) (by decide) (by decide) (Ak f q);have a8:=(Ae _ _ (Ak f q) _ (show g≠w.heap.size+1 by omega)).trans hSn;clear hSn;have hSn:=a8;clear a8;refine Cw G (fun b=>?_);clear G K;refine Bb 11 ?_;refine wpAnyH_done Kr ?_ _;clear b;go_wp2_with fail;go_meet
  case rel=>exact⟨rfl,f,q,a,l,a6.Aq,a7,ah,ai,a6.below⟩
 case rest=>
  obtain⟨rfl,f,q,a,l,aj,ak,al,an,ao⟩:=hcut;go_wp2_with fail;refine bodyPost_ret (v:=.tuple #[.agg (Ak f q),()]) (Ka rfl _ _ rfl (Cf aj Ar Kr Kr) rfl) rfl ?_;exact HQ.out f q a l _ ak al an ao
theorem aW {N n k:Nat}{ids:List Int}{c:Int}(s:Tx.St)(p:SP)(fs:List Fr)(C:Nat→ByteArray)(M:SW N n k ids c s fs C)(hc:c+1634≤(N:Int)*128)(t:Int)(ht:t∈ids)(O:Rc.num t)(w:World)(h:Am w s p fs):
 Cq 49 #[Ah s p,t] w (Qz N n k ids (c+1634) C 0 1 0 [D6 ((n+7)/8)] w):=by
 have hn:=M.ss.pi.n1;have HZ:=Hq M.ss.pi.zp;have P:1≤(n+7)/8:=by omega
 have ad:(n+7)/8≤8:=by omega
 have E:=Hq (fun W=>eO s p n M.ss.pi.zp (by omega) W);have ae:=Tk P;have v:=lW (r:=D6 ((n+7)/8)) (by omega) (by omega);have R:=Hq (fun W=>Yr 1 W);have z:=Hq (fun W=>show Cr 90 #[.string (Gi 1),(),.string (D6 ((n+7)/8))] W (Kn (Dl ⟨0,1,0,[D6 ((n+7)/8)]⟩,0)) from by
  have T:=jO (Gi (1:Nat)) 0 (D6 ((n+7)/8)) (by rw[(Ln 1 (by omega)).1.size];omega) W;rw[v.1]at T;exact T)
 have A:=Hq (fun W (hb:Bw w W)=>show Cq 106 #[Ah s p,t,(),.string (Dl ⟨0,1,0,[D6 ((n+7)/8)]⟩)] W (Qz N n k ids (c+1634) C 0 1 0 [D6 ((n+7)/8)] W)from by
  have T:=mF s p fs C M hc t ht O 0 rfl (by omega) (Dl ⟨0,1,0,[D6 ((n+7)/8)]⟩) v.2.1 (by rw[v.2.2]) W (h.below hb);rw[v.2.2]at T;exact T)
 have HQ:=Hq (fun(j:Tx.St) (q:SP) (o:List Fr) (J:Nat→ByteArray) w' h1 h2 h3 h4=>show Qz N n k ids (c+1634) C 0 1 0 [D6 ((n+7)/8)] w (.returned (.tuple #[Ah j q,()])) w' from⟨j,q,o,J,rfl,h1,h2,h3,h4⟩);have U:=Hq (fun W e w' (hh:Qz N n k ids (c+1634) C 0 1 0 [D6 ((n+7)/8)] W e w')=>show ∃ (j:Tx.St) (q:SP) (o:List Fr) (J:Nat→ByteArray),e= .returned (.tuple #[Ah j q,()])∧Am w' j q o∧SW N n k ids (c+1634) j o J∧Xq C J 0 1 0 [D6 ((n+7)/8)]∧Bw W w' from hh);generalize af:Qz N n k ids (c+1634) C 0 1 0 [D6 ((n+7)/8)] w=Q at HQ ⊢;have ag:¬ (n:Int)<1:=by omega
 have ah:¬ (2000:Int)<(n:Int):=by omega
 have F:∀ W:World,(Instr.makeSlice 112 (.int .i64 (((n+7)/8-1:Nat):Int)) (.int .i64 (((n+7)/8-1:Nat):Int))).run Tryz.prog W= .ok (.slice (some ⟨W.heap.size,0,none⟩) ((n+7)/8-1) ((n+7)/8-1)) (W.alloc (.cells (madeCells #[Value.int .u8 0] ((n+7)/8-1)) 5)):=fun W=>Jw ((n+7)/8-1) (by omega) W;have B:=Jx ((n+7)/8-1);have i:∀ W:World,(Op.stringOp .add ⟨#[1]⟩ ⟨(List.replicate ((n+7)/8-1) 0).toArray⟩).run Tryz.prog W= .ok (.string (D6 ((n+7)/8))) W:=fun W=>by
  rw[← mA];exact run_string_add_sum W _ _ (by rw[qM,eK];omega)
 have V:(((n+7)/8:Nat):Int)-1=(((n+7)/8-1:Nat):Int):=by omega
 have G:IntKind.i64.wrap ((((n+7)/8:Nat):Int)-1)=(((n+7)/8-1:Nat):Int):=by rw[V];exact IntWalk.i64_in _ (by omega)
 generalize D6 ((n+7)/8)=fb at z A HQ i U;generalize Dl ⟨0,1,0,[fb]⟩=pb at z A;generalize ai:(n+7)/8=m at F B i G E;generalize m-1=m1 at F B i G;generalize (⟨(List.replicate m1 0).toArray⟩:ByteArray)=zz at B i;clear h M hn hc ht O v ae P ad ai V af;go_enter Tryz.func49,Tryz.ntmps49;go_upto_region 1 with fail;have L:=Lx w (Ak s p) 36 #[(),(),(),"s",(),false,(),(),(),(),"","s",(),"s",()] 36;obtain⟨H,X⟩:=E0 L;rw[← X]at L ⊢;clear X;have aj:=show H.cell? ⟨w.heap.size,1,none⟩=some (.int .i64 (n:Int))from by rw[Aa L.out.Ao,← HZ.out];rfl
 go_upto_region 3 with fail;clear aj ag ah
 go_cut [6] (fun x wc=>x= .string pb∧Bw H wc)
 case first=>
  have y:=Hq (fun(u:World) (hu:Bw H u)=>show u.heap[w.heap.size]? =some (.cells (Ak s p) 36 (0,0))from Af L.out.Ao hu);have f:Bw H H.drew:=(Below.refl _ H).drew;have hSn:=y.out _ f;refine G7 (S:=(fun u=>u.heap[w.heap.size]? =some (.cells (Ak s p) 36 (0,0)))) (fun a=>?_);generalize H.drew=w8 at hSn f ⊢;refine fA 1 Ar ?_;refine Dg 0 fun K l=>?_
  go_simp
  (refine(R.out _).mono ?_);rintro e w9 ⟨rfl,b⟩;have d:=Ag f b;clear f hSn b;have f:=d;clear d;have hSn:=y.out _ f
  refine Cw l (fun a=>?_);clear l K;refine Dg 2 fun K l=>?_
  go_simp
  (refine(E.out _).mono ?_);rintro e w9 ⟨rfl,b⟩;have d:=Ag f b;clear f hSn b;have f:=d;clear d;have hSn:=y.out _ f
  refine Cw l (fun a=>?_);clear l K;refine Bb 3 ?_;refine Dg 4 fun K l=>?_
  go_simp
  have b:=Ac w9 (.cells (madeCells #[Value.int .u8 0] m1) 5);have d:=Ag f b;clear f hSn b;have f:=d;clear d;have hSn:=y.out _ f;refine Cw l (fun a=>?_);clear l K;refine Dg 5 fun K l=>?_
  go_simp
  refine Cw l (fun a=>?_);clear l K;refine Bb 6 ?_;refine Dg 7 fun K l=>?_
  go_simp
  (refine(z.out _).mono ?_);rintro e w9 ⟨rfl,b⟩;have d:=Ag f b;clear f hSn b;have f:=d;clear d;have hSn:=y.out _ f
  refine Cw l (fun a=>?_);clear l K;refine Bb 8 ?_;refine Bb 9 ?_;refine Bb 10 ?_;refine Bb 11 ?_;refine Bb 12 ?_;refine wpAnyH_done Kr ?_ _;clear a;go_wp2_with fail;go_meet
  case rel=>exact⟨rfl,f⟩
 case rest=>
  obtain⟨rfl,Y⟩:=hcut;obtain⟨w3,rfl⟩:=ex wc;have H3:=Hq (L.out.step Y);clear Y F B i G E R z L
  go_upto_region 5 with(first
   |with_reducible refine lL H3.out.Ao Ar ?_
   |(go_at_call 106;refine(A.out _ H3.out.below).mono ?_;intro e Z hh;obtain⟨j,q,o,J,rfl,a1,ak,al,I⟩:=U.out _ _ _ hh;clear hh)
   |with_reducible refine sN (Ak j q) ?_)
  have a6:=I.trans ((Ac Z (.cells (Ak j q) 36)).mono I.size);have H5:=Hq (H3.out.step a6);have a7:=Hq (heap_alloc_new Z (.cells (Ak j q) 36));have a8:=Hq (a1.below (Ac Z (.cells (Ak j q) 36)));obtain⟨g,hg⟩:=ex Z.heap.size;obtain⟨w5,D⟩:=ex (Z.alloc (.cells (Ak j q) 36));rw[← hg,← D]at a7;rw[← D]at H5 a8;rw[← D,← hg];clear D hg I a6 H3 A a1
  try simp only[Act.put]
  have an:=Hq (fun W=>eP s p j q 0 (by decide) W)
  go_wp2_with(first
   |with_reducible refine lL H5.out.Ao Ar ?_
   |with_reducible refine lL a7.out Ar ?_
   |(go_at_call 107;refine(an.out _).mono ?_;rintro e w6 ⟨he,aa⟩;rw[if_pos rfl]at he;subst he;have H6:=Hq (H5.out.step aa))
   |with_reducible refine lS (Ak j q) H6.out.Aq ?_)
  refine rT2 () H6.out.Aq Ar ?_;exact HQ.out j q o J _ ((a8.out.below aa).other (t:=36) H6.out.Aq (by decide) (by decide) (by decide) _) ak al (H6.out.row 1 (Ak j q) _ rfl).below
end Go.Proofs.YtmfkhdhnbkambaaGreatDoor
