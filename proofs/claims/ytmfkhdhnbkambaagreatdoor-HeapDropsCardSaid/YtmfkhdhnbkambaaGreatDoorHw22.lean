import Derived.Test.YtmfkhdhnbkambaaGreatDoorHw00
import Derived.Test.YtmfkhdhnbkambaaGreatDoorHw21
import Derived.Test.YtmfkhdhnbkambaaGreatDoorHw08
set_option maxRecDepth 100000
set_option maxHeartbeats 16000000
set_option linter.unusedSimpArgs false
namespace Go.Proofs.YtmfkhdhnbkambaaGreatDoor
open Go.RowKit Sc
theorem SS.hk {N n k:Nat}{ids:List Int}{c:Int}{s s':Tx.St}{fs a:List Fr}{C:Nat→ByteArray}(h:SS N n k ids c s fs C)(hk:Hk s s' fs a)(b:PI N n s' a C):SS N n k ids c s' a C:=
 ⟨b,⟨by rw[hk.tx];exact h.tx.tl,by rw[hk.tx];exact h.tx.all,h.tx.len,by rw[hk.tx];exact h.tx.op⟩,hk.ln.trans h.nf,by rw[hk.en];exact h.used⟩
theorem SS.ch {N n k:Nat}{ids:List Int}{c:Int}{s s':Tx.St}{fs b:List Fr}{C C':Nat→ByteArray}{t l:Int}(h:SS N n k ids c s fs C)(hk:wC s s' fs b t l)(m:PI N n s' b C'):SS N n k ids (c+1634) s' b C':=by
 obtain⟨i,g,o,d⟩:=hk.ti;refine⟨m,⟨?_,fun a f=>?_,h.tx.len,fun a f=>?_⟩,hk.ln.trans h.nf,by have:=hk.en;have:=h.used;omega⟩
 ·rw[d,← h.tx.tl]
  apply List.ext_getElem?
  intro j;rw[List.getElem?_map,List.getElem?_map]
  by_cases e:i=j
  ·subst e
   rw[List.getElem?_set_self g,List.getElem?_eq_getElem g];rfl
  ·rw[List.getElem?_set_ne e]
 ·rw[d]at f
  rcases List.mem_or_eq_of_mem_set f with h1|h1
  ·exact h.tx.all a h1
  ·rw[h1]
   exact⟨(h.tx.all _ (List.getElem_mem g)).1,hk.lr,hk.lr⟩
 ·rw[d]at f
  rcases List.mem_or_eq_of_mem_set f with h1|h1
  ·exact h.tx.op a h1
  ·rw[h1]
   exact h.tx.op s.txns[i] (List.getElem_mem g)
structure Xq (C C':Nat→ByteArray) (pg kind link:Nat) (Ai:List ByteArray):Prop where
 k:(Ab (C' pg)).kind=kind
 l:(Ab (C' pg)).link=link
 r:(Ab (C' pg)).Ai=Ai
 o:∀ x,x≠pg→C' x=C x
theorem Xr {C:Nat→ByteArray}{pg:Nat}{b:ByteArray}{l:Int}(a:Lu b)(c:Rc.num l):Xq C (fun x=>if x=pg then Bl b l else C x) pg (Ab b).kind (Ab b).link (Ab b).Ai:=by
 have h:=(P6 a c).2;refine⟨?_,?_,?_,fun x d=>if_neg d⟩
 ·show(Ab (if pg=pg then _ else _)).kind=_
  rw[if_pos rfl,h]
 ·show(Ab (if pg=pg then _ else _)).link=_
  rw[if_pos rfl,h]
 ·show(Ab (if pg=pg then _ else _)).Ai=_
  rw[if_pos rfl,h]
theorem Xs {p b:ByteArray}(a:p.size≤512)(c:b.size≤512)(t:Int)(d:Rc.num t){pg:Nat}(g:pg<60)(k:Int)(hk:1≤k∧k≤7):∀ l v,Rc.num l→Rc.num v→Rc.Bu ⟨l,v,t,2,(pg:Int),0,0,⟨k,0,p,b⟩,1,0,Rc.Ce,[],[]⟩:=
 fun _ _ e f=>kU e f d ⟨by omega,by omega⟩ hk a c
theorem lW {r:ByteArray}(h:1≤r.size)(f:r.size≤400):Iw (Gi (1:Nat)) 0 r=(Dl ⟨0,1,0,[r]⟩,0)∧Lu (Dl ⟨0,1,0,[r]⟩)∧Ab (Dl ⟨0,1,0,[r]⟩)=⟨0,1,0,[r]⟩:=by
 have c:=Ln 1 (by omega);have a:Pg.Ay [r]≤512:=by unfold Pg.Ay Pg.An Pg.An;simp;omega
 have g:Pg.trim [r]=[r]:=Pg.Ee fun x b=>by simp at b;rw[← b];omega
 refine⟨?_,Tf ⟨by show 0<281474976710656;omega,by show 1≤4;omega,by show 0<16777216;omega⟩ a (fun x b=>by simp at b;rw[b];exact f) g⟩;unfold Iw;have d:Pg.Ba (Ab (Gi (1:Nat))).Ai 0=⟨#[]⟩:=by rw[c.2];rfl
 rw[if_neg (by rw[c.1.is];decide),if_neg (by decide),d,if_neg (by decide),if_neg (by unfold Hh;rw[decide_eq_true ⟨h,f⟩];decide),if_neg (by decide)];have e:A6 (Gi (1:Nat)) (Pg.putAt (Ab (Gi (1:Nat))).Ai (0:Int).toNat r)=⟨0,1,0,[r]⟩:=by unfold A6;rw[c.2];rfl
 rw[e];exact J1 (by show Pg.Ay (Pg.trim [r])≤512;rw[g];exact a)
theorem lX (s:Tx.St)(p:SP)(s2:Tx.St)(c:SP)(x:Int)(e:x≠20)(w:World):
 Cr 64 #[Ah s p,Ah s2 c,x] w (if x=0 then Ah s2 c else Ah s p):=by
 have f:(x==20)=false:=beq_eq_false_iff_ne.2 e
 by_cases d:x=0
 ·rw[if_pos d]
  have g:(x==0)=true:=by rw[d];rfl
  clear d e f;go_enter Tryz.func64,Tryz.ntmps64;go_upto_region 1 with fail;have a:=Ol w (Ak s p) 36 (Ak s2 c) 36 #[(),(),(),"s",(),false,(),(),(),(),"","s",(),"s",()] 36;obtain⟨h,b⟩:=E0 a;rw[← b]at a ⊢;clear b
  go_wp2_with(first|with_reducible refine lL a.out.Aq Ar ?_|with_reducible refine lS (Ak s2 c) a.out.Cd ?_)
  refine rT1 a.out.Cd Ar ?_;exact⟨rfl,(a.out.row 2 (Ak s2 c) _ rfl).below⟩
 ·rw[if_neg d]
  have g:(x==0)=false:=beq_eq_false_iff_ne.2 d;clear d e;go_enter Tryz.func64,Tryz.ntmps64;go_upto_region 1 with fail;have a:=Ol w (Ak s p) 36 (Ak s2 c) 36 #[(),(),(),"s",(),false,(),(),(),(),"","s",(),"s",()] 36;obtain⟨h,b⟩:=E0 a;rw[← b]at a ⊢;clear b
  go_wp2_with(first|with_reducible refine lL a.out.Ao Ar ?_|with_reducible refine lS (Ak s p) a.out.Cd ?_)
  refine rT1 a.out.Cd Ar ?_;exact⟨rfl,(a.out.row 2 (Ak s p) _ rfl).below⟩
theorem lY (s:Tx.St)(p:SP)(n:Nat)(d:s.zpages=(n:Int))(i:n≤60)(w:World):
 Cr 120 #[Ah s p] w (.int .i64 (((n+7)/8:Nat):Int)):=by
 have e:=Hq d;clear d;have f:IntKind.i64.wrap ((n:Int)+7)=(n:Int)+7:=IntWalk.i64_in _ (by omega);have g:Int.tdiv ((n:Int)+7) 8=(((n+7)/8:Nat):Int):=by rw[Int.tdiv_eq_ediv_of_nonneg (by omega)];omega
 have c:IntKind.i64.wrap (((n+7)/8:Nat):Int)=(((n+7)/8:Nat):Int):=IntWalk.i64_in _ (by omega);generalize (((n+7)/8:Nat):Int)=m at g c ⊢;go_enter Tryz.func120,Tryz.ntmps120;go_upto_region 1 with fail;have b:=bP w (Ak s p) 36;obtain⟨h,a⟩:=E0 b;rw[← a]at b ⊢;clear a;have j:=show h.cell? ⟨w.heap.size,1,none⟩=some (.int .i64 (n:Int))from by rw[Aa b.out.Ao,← e.out];rfl
 go_wp2_with fail;go_ret;exact⟨rfl,b.out.below⟩
theorem Qx {N n k:Nat}{ids:List Int}{c:Int}(s:Tx.St)(p:SP)(fs:List Fr)(C:Nat→ByteArray)(d:SS N n k ids c s fs C)(G:c+1634≤(N:Int)*128)(t:Int)(B:t∈ids)(pg:Nat)(m:pg<n)(o:Rc.Op)(b:ByteArray)
 (D:∀ l v,Rc.num l→Rc.num v→Rc.Bu (⟨l,v,t,2,(pg:Int),0,0,o,1,0,Rc.Ce,[],[]⟩:Rc.Rec)) (i:∀ W,Cr 78 #[.string (C pg),.agg #[o.kind,o.slot,o.By,o.new]] W (Kn (b,0))) (E:Lu b) (w:World) (h:Am w s p fs):
 Cq 148 #[Ah s p,t,.int .i64 (pg:Int),.agg #[o.kind,o.slot,o.By,o.new]] w (Pf N n C s fs t pg b w):=by
 have r:=Hq (fun W (H:Bw w W)=>Qw s p fs C d.pi t pg m o b (d.tx.ex B) d.tx.all d.tx.small D E (by have:=d.used;omega) W (fun I _=>i I) (h.below H));clear d D i E h G B;have F:=Hq (fun(f:Tx.St) (q:SP) (a:List Fr) (l:Int) w' J K L M=>show Pf N n C s fs t pg b w (.returned (.tuple #[Ah f q,()])) w' from⟨f,q,a,l,rfl,J,K,L,M⟩);generalize u:Pf N n C s fs t pg b w=Q at F ⊢;clear u;go_enter Tryz.func148,Tryz.ntmps148;go_upto_region 1 with fail;have g:=Ol w (Ak s p) 36 #[o.kind,o.slot,o.By,o.new] 42 #[(),(),(),"s",(),false,(),(),(),(),"","s",(),"s",()] 36;obtain⟨O,j⟩:=E0 g;rw[← j]at g ⊢;clear j
 go_wp2_with(first
  |with_reducible refine lL g.out.Ao Ar ?_
  |with_reducible refine lL g.out.Aq oE ?_
  |(go_at_call 34;refine(r.out _ g.out.below).mono ?_;rintro e P ⟨f,q,a,l,rfl,x,y,z,A⟩;have H1:=Hq (g.out.step A))
  |with_reducible refine lS (Ak f q) H1.out.Cd ?_)
 refine rT2 () H1.out.Cd Ar ?_;exact F.out f q a l _ (x.other (t:=36) H1.out.Cd (by decide) (by decide) (by decide) _) y z (H1.out.row 2 (Ak f q) _ rfl).below
def gP (N n k:Nat)(ids:List Int)(c:Int)(C:Nat→ByteArray)(pg kind link:Nat)(Ai:List ByteArray)(w:World)(e:Ending)(w':World):Prop:=
 ∃ (s':Tx.St) (q:SP) (fs':List Fr) (C':Nat→ByteArray),e= .returned (.tuple #[Ah s' q,()])∧Am w' s' q fs'∧SS N n k ids c s' fs' C'∧Xq C C' pg kind link Ai∧Bw w w'
theorem qJ {N n k:Nat}{ids:List Int}{c:Int}(s:Tx.St)(p:SP)(fs:List Fr)(C:Nat→ByteArray)(I:SS N n k ids c s fs C)(hc:c+1634≤(N:Int)*128)(t:Int)(ht:t∈ids)(J:Rc.num t)(pg:Nat)(D:pg<n)(f:ByteArray)(y:Lu f)(h0:(Ab f).lsn=0)(w:World)(h:Am w s p fs):
 Cq 149 #[Ah s p,t,.int .i64 (pg:Int),f] w (gP N n k ids (c+1634) C pg (Ab f).kind (Ab f).link (Ab f).Ai w):=by
 have L:=Hq (fun W (hb:Bw w W)=>Tq s p fs C I.pi pg D W (h.below hb));have j:=I.pi.nm pg D;have m:=qE j y h0;have al:=I.pi.n1;have M:=Hq (fun W=>Jd (C pg) 0 (by rw[j.size];omega) W);have E:=Hq (fun(s1:Tx.St) (p1:SP) (b:List Fr) (F:SS N n k ids c s1 b C) W (hP:Am W s1 p1 b)=>show Cq 148 #[Ah s1 p1,t,.int .i64 (pg:Int),.agg #[.int .i64 7,(),.string (Bl (C pg) 0),f]] W _ from Qx s1 p1 b C F hc t ht pg D ⟨7,0,Bl (C pg) 0,f⟩ (Bl f ((Ab (C pg)).lsn:Nat)) (Xs (by have:=(Ii j.is (l:=0) (by omega)).2.2;rw[show((0:Nat):Int)=0 from rfl]at this;omega) (by rw[y.size];omega) t J (by omega) 7 ⟨by decide,by decide⟩) (fun V=>by
  have hd:=gO (C pg) ⟨7,0,Bl (C pg) 0,f⟩ (.inr rfl) (by rw[j.size];omega) (by simp only;rw[y.size];omega) V;rw[m.1]at hd;exact hd) m.2.1 W hP)
 have HQ:=Hq (fun(s1 g:Tx.St) (b:List Fr) (q:SP) (a:List Fr) (l:Int) w' (F:SS N n k ids c s1 b C) h1 (h2:PI N n g a (fun x=>if x=pg then Bl (Bl f ((Ab (C pg)).lsn:Nat)) l else C x)) (h3:wC s1 g b a t l) h4=>show gP N n k ids (c+1634) C pg (Ab f).kind (Ab f).link (Ab f).Ai w (.returned (.tuple #[Ah g q,()])) w' from⟨g,q,a,_,rfl,h1,F.ch h3 h2,by have h5:=Xr (C:=C) (pg:=pg) m.2.1 h3.lr;rw[m.2.2]at h5;exact h5,h4⟩);generalize a8:gP N n k ids (c+1634) C pg (Ab f).kind (Ab f).link (Ab f).Ai w=Q at HQ ⊢;have aa:=Hq I;clear a8 m j h hc ht J y h0 I;generalize Bl f ((Ab (C pg)).lsn:Nat)=b9 at E HQ;generalize Bl (C pg) 0=z at M E;go_enter Tryz.func149,Tryz.ntmps149;go_upto_region 1 with fail;have H:=Lx w (Ak s p) 36 #[(),(),(),"s",(),false,(),(),(),(),"","s",(),"s",()] 36;obtain⟨W0,O⟩:=E0 H;rw[← O]at H ⊢;clear O
 go_upto_region 4 with(first
  |with_reducible refine lL H.out.Ao Ar ?_
  |(go_at_call 13;refine(L.out _ H.out.below).mono ?_;rintro e w1 ⟨s1,A,b,rfl,P,R,T,U⟩;have H1:=Hq (H.out.step U))
  |with_reducible refine lS (Ak s1 A) H1.out.Ao ?_)
 have H2:=Hq (show Eg w.heap.size w [((Ak s1 A),36),(#[(),(),(),"s",(),false,(),(),(),(),"","s",(),"s",()],36)] (w1.setRow w.heap.size (Ak s1 A))from H1.out.row 0 (Ak s1 A) _ rfl);have X:=Hq (P.other (t:=36) H1.out.Ao (by decide) (by decide) (by decide) (Ak s1 A));have Y:=Hq (aa.out.hk T R);generalize w1.setRow w.heap.size (Ak s1 A)=Z at H2 X ⊢;clear H H1 P R T U L
 try simp only[Act.put]
 go_cut [9] (fun x wc=>x= .int .i64 0∧∃ (g:Tx.St) (q:SP) (a:List Fr) (l:Int),wc.heap[(w.heap.size+1)]? =some (.cells (Ak g q) 36 (0,0))∧Am wc g q a∧PI N n g a (fun x=>if x=pg then Bl b9 l else C x)∧wC s1 g b a t l∧Bw w wc)
 case first=>
  have G:=Hq (fun(u:World) (hu:Bw Z u)=>show u.heap[w.heap.size]? =some (.cells (Ak s1 A) 36 (0,0))from Af H2.out.Ao hu);have i:Bw Z Z.drew:=(Below.refl _ Z).drew;have hSn:=G.out _ i;refine G7 (S:=(fun u=>u.heap[w.heap.size]? =some (.cells (Ak s1 A) 36 (0,0)))) (fun d=>?_);generalize Z.drew=w8 at hSn i ⊢;refine fA 0 Ar ?_;refine Bb 1 ?_;refine Bb 2 ?_;refine Bb 3 ?_;refine Bb 5 ?_;refine Dg 4 fun K B=>?_
  go_simp
  (refine(M.out _).mono ?_);rintro e w9 ⟨rfl,o⟩;have r:=Ag i o;clear i hSn o;have i:=r;clear r;have hSn:=G.out _ i
  refine Cw B (fun d=>?_);clear B K;refine Bb 6 ?_;refine Dg 7 fun K B=>?_
  go_simp
  (refine(E.out s1 A b Y.out _ (X.out.below i)).mono ?_);rintro e w9 ⟨g,q,a,l,rfl,ad,ae,af,o⟩;have r:=Ag i o;clear i hSn o;have i:=r;clear r;have hSn:=G.out _ i;have H9:=H2.out.step i
  refine Cw B (fun d=>?_);clear B K;refine Bb 8 ?_;refine Bb 9 ?_;refine Dg 10 fun K B=>?_;refine Cc (by rfl) ?_;refine sW (Ak g q) H9.Aq ?_;have a1:=H9.row 1 (Ak g q) _ rfl;have a6:=ad.other (t:=36) H9.Aq (by decide) (by decide) (by decide) (Ak g q);have a7:=(Ae _ _ (Ak g q) _ (show w.heap.size≠w.heap.size+1 by omega)).trans hSn;clear hSn;have hSn:=a7;clear a7;refine Cw B (fun d=>?_);clear B K;refine Bb 11 ?_;refine wpAnyH_done Kr ?_ _;clear d;go_wp2_with fail;go_meet
  case rel=>exact⟨rfl,g,q,a,l,a1.Aq,a6,ae,af,a1.below⟩
 case rest=>
  obtain⟨rfl,g,q,a,l,ag,ah,ai,aj,ak⟩:=hcut;go_wp2_with fail;refine bodyPost_ret (v:=.tuple #[.agg (Ak g q),()]) (Ka rfl _ _ rfl (Cf ag Ar Kr Kr) rfl) rfl ?_;exact HQ.out s1 g b q a l _ Y.out ah ai aj ak
end Go.Proofs.YtmfkhdhnbkambaaGreatDoor
