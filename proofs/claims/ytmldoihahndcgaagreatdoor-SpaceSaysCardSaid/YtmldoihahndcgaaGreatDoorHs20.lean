import Derived.Test.YtmldoihahndcgaaGreatDoorHs00
import Derived.Test.YtmldoihahndcgaaGreatDoorHs19
import Derived.Test.YtmldoihahndcgaaGreatDoorHs07
set_option maxRecDepth 100000
set_option maxHeartbeats 16000000
set_option linter.unusedSimpArgs false
namespace Go.Proofs.YtmldoihahndcgaaGreatDoor
open Go.RowKit Sc
theorem SS.hk {N n k:Nat}{ids:List Int}{c:Int}{s s':Tx.St}{fs a:List Fr}{C:Nat→ByteArray}(h:SS N n k ids c s fs C)(hk:Hk s s' fs a)(b:PI N n s' a C):SS N n k ids c s' a C:=
 ⟨b,⟨by rw[hk.tx];exact h.tx.tl,by rw[hk.tx];exact h.tx.all,h.tx.len⟩,hk.ln.trans h.nf,by rw[hk.en];exact h.used⟩
theorem SS.ch {N n k:Nat}{ids:List Int}{c:Int}{s s':Tx.St}{fs b:List Fr}{C C':Nat→ByteArray}{t l:Int}(h:SS N n k ids c s fs C)(hk:sF s s' fs b t l)(m:PI N n s' b C'):SS N n k ids (c+2524) s' b C':=by
 obtain⟨i,f,o,d⟩:=hk.ti;refine⟨m,⟨?_,fun a g=>?_,h.tx.len⟩,hk.ln.trans h.nf,by have:=hk.en;have:=h.used;omega⟩
 ·rw[d,← h.tx.tl]
  apply List.ext_getElem?
  intro j;rw[List.getElem?_map,List.getElem?_map]
  by_cases e:i=j
  ·subst e
   rw[List.getElem?_set_self f,List.getElem?_eq_getElem f];rfl
  ·rw[List.getElem?_set_ne e]
 ·rw[d]at g
  rcases List.mem_or_eq_of_mem_set g with h1|h1
  ·exact h.tx.all a h1
  ·rw[h1]
   exact⟨(h.tx.all _ (List.getElem_mem f)).1,hk.lr,hk.lr⟩
structure Pk (C C':Nat→ByteArray) (pg kind link:Nat) (recs:List ByteArray):Prop where
 k:(Af (C' pg)).kind=kind
 l:(Af (C' pg)).link=link
 r:(Af (C' pg)).recs=recs
 o:∀ x,x≠pg→C' x=C x
theorem Qv {C:Nat→ByteArray}{pg:Nat}{b:ByteArray}{l:Int}(a:Mo b)(c:Rc.num l):Pk C (fun x=>if x=pg then Bg b l else C x) pg (Af b).kind (Af b).link (Af b).recs:=by
 have h:=(Ux a c).2;refine⟨?_,?_,?_,fun x d=>if_neg d⟩
 ·show(Af (if pg=pg then _ else _)).kind=_
  rw[if_pos rfl,h]
 ·show(Af (if pg=pg then _ else _)).link=_
  rw[if_pos rfl,h]
 ·show(Af (if pg=pg then _ else _)).recs=_
  rw[if_pos rfl,h]
theorem Qw {p b:ByteArray}(a:p.size≤512)(c:b.size≤512)(t:Int)(d:Rc.num t){pg:Nat}(g:pg<60)(k:Int)(hk:1≤k∧k≤7):∀ l v,Rc.num l→Rc.num v→Rc.Bs ⟨l,v,t,2,(pg:Int),0,0,⟨k,0,p,b⟩,1,0,Rc.Cm,[],[]⟩:=
 fun _ _ e f=>jF e f d ⟨by omega,by omega⟩ hk a c
theorem Uz {r:ByteArray}(h:1≤r.size)(f:r.size≤400):Jq (E6 (1:Nat)) 0 r=(C8 ⟨0,1,0,[r]⟩,0)∧Mo (C8 ⟨0,1,0,[r]⟩)∧Af (C8 ⟨0,1,0,[r]⟩)=⟨0,1,0,[r]⟩:=by
 have c:=Im 1 (by omega);have a:Pg.A4 [r]≤512:=by unfold Pg.A4 Pg.Aq Pg.Aq;simp;omega
 have g:Pg.trim [r]=[r]:=Pg.Ec fun x b=>by simp at b;rw[← b];omega
 refine⟨?_,Sg ⟨by show 0<281474976710656;omega,by show 1≤4;omega,by show 0<16777216;omega⟩ a (fun x b=>by simp at b;rw[b];exact f) g⟩;unfold Jq;have d:Pg.Bc (Af (E6 (1:Nat))).recs 0=⟨#[]⟩:=by rw[c.2];rfl
 rw[if_neg (by rw[c.1.is];decide),if_neg (by decide),d,if_neg (by decide),if_neg (by unfold Ht;rw[decide_eq_true ⟨h,f⟩];decide),if_neg (by decide)];have e:Be (E6 (1:Nat)) (Pg.putAt (Af (E6 (1:Nat))).recs (0:Int).toNat r)=⟨0,1,0,[r]⟩:=by unfold Be;rw[c.2];rfl
 rw[e];exact Lr (by show Pg.A4 (Pg.trim [r])≤512;rw[g];exact a)
theorem U0 (s:Tx.St)(p:SP)(s2:Tx.St)(c:SP)(x:Int)(e:x≠20)(w:World):
 Cr 65 #[Ag s p,Ag s2 c,x] w (if x=0 then Ag s2 c else Ag s p):=by
 have f:(x==20)=false:=beq_eq_false_iff_ne.2 e
 by_cases d:x=0
 ·rw[if_pos d]
  have g:(x==0)=true:=by rw[d];rfl
  clear d e f;go_enter Tryz.func65,Tryz.ntmps65;go_upto_region 1 with fail;have a:=Q6 w (Aj s p) 36 (Aj s2 c) 36 #[(),(),(),'s',(),false,(),(),(),(),"",'s',(),'s',()] 36;obtain⟨h,b⟩:=Ee a;rw[← b]at a ⊢;clear b
  go_wp2_with(first|with_reducible refine lL a.out.Am Ar ?_|with_reducible refine lS (Aj s2 c) a.out.Cj ?_)
  refine rT1 a.out.Cj Ar ?_;exact⟨rfl,(a.out.row 2 (Aj s2 c) _ rfl).below⟩
 ·rw[if_neg d]
  have g:(x==0)=false:=beq_eq_false_iff_ne.2 d;clear d e;go_enter Tryz.func65,Tryz.ntmps65;go_upto_region 1 with fail;have a:=Q6 w (Aj s p) 36 (Aj s2 c) 36 #[(),(),(),'s',(),false,(),(),(),(),"",'s',(),'s',()] 36;obtain⟨h,b⟩:=Ee a;rw[← b]at a ⊢;clear b
  go_wp2_with(first|with_reducible refine lL a.out.Ai Ar ?_|with_reducible refine lS (Aj s p) a.out.Cj ?_)
  refine rT1 a.out.Cj Ar ?_;exact⟨rfl,(a.out.row 2 (Aj s p) _ rfl).below⟩
theorem U1 (s:Tx.St)(p:SP)(n:Nat)(d:s.zpages=(n:Int))(i:n≤60)(w:World):
 Cr 130 #[Ag s p] w (.int .i64 (((n+7)/8:Nat):Int)):=by
 have e:=Hq d;clear d;have f:IntKind.i64.wrap ((n:Int)+7)=(n:Int)+7:=IntWalk.i64_in _ (by omega);have g:Int.tdiv ((n:Int)+7) 8=(((n+7)/8:Nat):Int):=by rw[Int.tdiv_eq_ediv_of_nonneg (by omega)];omega
 have c:IntKind.i64.wrap (((n+7)/8:Nat):Int)=(((n+7)/8:Nat):Int):=IntWalk.i64_in _ (by omega);generalize (((n+7)/8:Nat):Int)=m at g c ⊢;go_enter Tryz.func130,Tryz.ntmps130;go_upto_region 1 with fail;have b:=aI w (Aj s p) 36;obtain⟨h,a⟩:=Ee b;rw[← a]at b ⊢;clear a;have j:=show h.cell? ⟨w.heap.size,1,none⟩=some (.int .i64 (n:Int))from by rw[Aa b.out.Ai,← e.out];rfl
 go_wp2_with fail;go_ret;exact⟨rfl,b.out.below⟩
theorem Qa {N n k:Nat}{ids:List Int}{c:Int}(s:Tx.St)(p:SP)(fs:List Fr)(C:Nat→ByteArray)(d:SS N n k ids c s fs C)(G:c+2524≤(N:Int)*128)(t:Int)(B:t∈ids)(pg:Nat)(m:pg<n)(o:Rc.Op)(b:ByteArray)
 (D:∀ l v,Rc.num l→Rc.num v→Rc.Bs (⟨l,v,t,2,(pg:Int),0,0,o,1,0,Rc.Cm,[],[]⟩:Rc.Rec)) (i:∀ W,Cr 178 #[.string (C pg),.agg #[o.kind,o.slot,o.Cs,o.new]] W (Mm (b,0))) (E:Mo b) (w:World) (h:Ao w s p fs):
 Cq 142 #[Ag s p,t,.int .i64 (pg:Int),.agg #[o.kind,o.slot,o.Cs,o.new]] w (Uy N n C s fs t pg b w):=by
 have r:=Hq (fun W (H:Bw w W)=>Zy s p fs C d.pi t pg m o b (d.tx.ex B) d.tx.all d.tx.small D i E (by have:=d.used;omega) W (h.below H));clear d D i E h G B;have F:=Hq (fun(f:Tx.St) (q:SP) (a:List Fr) (l:Int) w' I J K L=>show Uy N n C s fs t pg b w (.returned (.tuple #[Ag f q,()])) w' from⟨f,q,a,l,rfl,I,J,K,L⟩);generalize u:Uy N n C s fs t pg b w=Q at F ⊢;clear u;go_enter Tryz.func142,Tryz.ntmps142;go_upto_region 1 with fail;have g:=Q6 w (Aj s p) 36 #[o.kind,o.slot,o.Cs,o.new] 83 #[(),(),(),'s',(),false,(),(),(),(),"",'s',(),'s',()] 36;obtain⟨M,j⟩:=Ee g;rw[← j]at g ⊢;clear j
 go_wp2_with(first
  |with_reducible refine lL g.out.Ai Ar ?_
  |with_reducible refine lL g.out.Am pC ?_
  |(go_at_call 107;refine(r.out _ g.out.below).mono ?_;rintro e O ⟨f,q,a,l,rfl,x,y,z,A⟩;have H1:=Hq (g.out.step A))
  |with_reducible refine lS (Aj f q) H1.out.Cj ?_)
 refine rT2 () H1.out.Cj Ar ?_;exact F.out f q a l _ (x.other (t:=36) H1.out.Cj (by decide) (by decide) (by decide) _) y z (H1.out.row 2 (Aj f q) _ rfl).below
def Oj (N n k:Nat)(ids:List Int)(c:Int)(C:Nat→ByteArray)(pg kind link:Nat)(recs:List ByteArray)(w:World)(e:Ending)(w':World):Prop:=
 ∃ (s':Tx.St) (q:SP) (fs':List Fr) (C':Nat→ByteArray),e= .returned (.tuple #[Ag s' q,()])∧Ao w' s' q fs'∧SS N n k ids c s' fs' C'∧Pk C C' pg kind link recs∧Bw w w'
theorem Zz {N n k:Nat}{ids:List Int}{c:Int}(s:Tx.St)(p:SP)(fs:List Fr)(C:Nat→ByteArray)(I:SS N n k ids c s fs C)(hc:c+2524≤(N:Int)*128)(t:Int)(ht:t∈ids)(J:Rc.num t)(pg:Nat)(D:pg<n)(f:ByteArray)(y:Mo f)(h0:(Af f).lsn=0)(w:World)(h:Ao w s p fs):
 Cq 131 #[Ag s p,t,.int .i64 (pg:Int),f] w (Oj N n k ids (c+2524) C pg (Af f).kind (Af f).link (Af f).recs w):=by
 have L:=Hq (fun W (hb:Bw w W)=>Lw s p fs C I.pi pg D W (h.below hb));have j:=I.pi.nm pg D;have m:=oD j y h0;have an:=I.pi.n1;have M:=Hq (fun W=>Ge (C pg) 0 (by rw[j.size];omega) W);have E:=Hq (fun(s1:Tx.St) (p1:SP) (b:List Fr) (F:SS N n k ids c s1 b C) W (hP:Ao W s1 p1 b)=>show Cq 142 #[Ag s1 p1,t,.int .i64 (pg:Int),.agg #[.int .i64 7,(),.string (Bg (C pg) 0),f]] W _ from Qa s1 p1 b C F hc t ht pg D ⟨7,0,Bg (C pg) 0,f⟩ (Bg f ((Af (C pg)).lsn:Nat)) (Qw (by have:=(Ia j.is (l:=0) (by omega)).2.2;rw[show((0:Nat):Int)=0 from rfl]at this;omega) (by rw[y.size];omega) t J (by omega) 7 ⟨by decide,by decide⟩) (fun V=>by
  have hd:=fH (C pg) ⟨7,0,Bg (C pg) 0,f⟩ (.inr rfl) (by rw[j.size];omega) (by simp only;rw[y.size];omega) V;rw[m.1]at hd;exact hd) m.2.1 W hP)
 have HQ:=Hq (fun(s1 g:Tx.St) (b:List Fr) (q:SP) (a:List Fr) (l:Int) w' (F:SS N n k ids c s1 b C) h1 (h2:PI N n g a (fun x=>if x=pg then Bg (Bg f ((Af (C pg)).lsn:Nat)) l else C x)) (h3:sF s1 g b a t l) h4=>show Oj N n k ids (c+2524) C pg (Af f).kind (Af f).link (Af f).recs w (.returned (.tuple #[Ag g q,()])) w' from⟨g,q,a,_,rfl,h1,F.ch h3 h2,by have h5:=Qv (C:=C) (pg:=pg) m.2.1 h3.lr;rw[m.2.2]at h5;exact h5,h4⟩);generalize a8:Oj N n k ids (c+2524) C pg (Af f).kind (Af f).link (Af f).recs w=Q at HQ ⊢;have aa:=Hq I;clear a8 m j h hc ht J y h0 I;generalize Bg f ((Af (C pg)).lsn:Nat)=b9 at E HQ;generalize Bg (C pg) 0=z at M E;go_enter Tryz.func131,Tryz.ntmps131;go_upto_region 1 with fail;have H:=Hp w (Aj s p) 36 #[(),(),(),'s',(),false,(),(),(),(),"",'s',(),'s',()] 36;obtain⟨W0,O⟩:=Ee H;rw[← O]at H ⊢;clear O
 go_upto_region 4 with(first
  |with_reducible refine lL H.out.Ai Ar ?_
  |(go_at_call 19;refine(L.out _ H.out.below).mono ?_;rintro e w1 ⟨s1,A,b,rfl,P,R,T,U⟩;have H1:=Hq (H.out.step U))
  |with_reducible refine lS (Aj s1 A) H1.out.Ai ?_)
 have H2:=Hq (show D6 w.heap.size w [((Aj s1 A),36),(#[(),(),(),'s',(),false,(),(),(),(),"",'s',(),'s',()],36)] (w1.setRow w.heap.size (Aj s1 A))from H1.out.row 0 (Aj s1 A) _ rfl);have X:=Hq (P.other (t:=36) H1.out.Ai (by decide) (by decide) (by decide) (Aj s1 A));have Y:=Hq (aa.out.hk T R);generalize w1.setRow w.heap.size (Aj s1 A)=Z at H2 X ⊢;clear H H1 P R T U L
 try simp only[Act.put]
 go_cut [9] (fun x wc=>x= .int .i64 0∧∃ (g:Tx.St) (q:SP) (a:List Fr) (l:Int),wc.heap[(w.heap.size+1)]? =some (.cells (Aj g q) 36 (0,0))∧Ao wc g q a∧PI N n g a (fun x=>if x=pg then Bg b9 l else C x)∧sF s1 g b a t l∧Bw w wc)
 case first=>
  have G:=Hq (fun(u:World) (hu:Bw Z u)=>show u.heap[w.heap.size]? =some (.cells (Aj s1 A) 36 (0,0))from Ae H2.out.Ai hu);have i:Bw Z Z.drew:=(Below.refl _ Z).drew;have hSn:=G.out _ i;refine Gd (S:=(fun u=>u.heap[w.heap.size]? =some (.cells (Aj s1 A) 36 (0,0)))) (fun d=>?_);generalize Z.drew=w8 at hSn i ⊢;refine Nk 0 Ar ?_;refine Au 1 ?_;refine Au 2 ?_;refine Au 3 ?_;refine Au 5 ?_;refine Ch 4 fun K B=>?_
  go_simp
  (refine(M.out _).mono ?_);rintro e w9 ⟨rfl,o⟩;have r:=Ad i o;clear i hSn o;have i:=r;clear r;have hSn:=G.out _ i
  refine Bq B (fun d=>?_);clear B K;refine Au 6 ?_;refine Ch 7 fun K B=>?_
  go_simp
  (refine(E.out s1 A b Y.out _ (X.out.below i)).mono ?_);rintro e w9 ⟨g,q,a,l,rfl,ad,ae,af,o⟩;have r:=Ad i o;clear i hSn o;have i:=r;clear r;have hSn:=G.out _ i;have H9:=H2.out.step i
  refine Bq B (fun d=>?_);clear B K;refine Au 8 ?_;refine Au 9 ?_;refine Ch 10 fun K B=>?_;refine Ay (by rfl) ?_;refine sW (Aj g q) H9.Am ?_;have a1:=H9.row 1 (Aj g q) _ rfl;have a6:=ad.other (t:=36) H9.Am (by decide) (by decide) (by decide) (Aj g q);have a7:=(Ah _ _ (Aj g q) _ (show w.heap.size≠w.heap.size+1 by omega)).trans hSn;clear hSn;have hSn:=a7;clear a7;refine Bq B (fun d=>?_);clear B K;refine Au 11 ?_;refine wpAnyH_done Kr ?_ _;clear d;go_wp2_with fail;go_meet
  case rel=>exact⟨rfl,g,q,a,l,a1.Am,a6,ae,af,a1.below⟩
 case rest=>
  obtain⟨rfl,g,q,a,l,ag,ah,ai,aj,ak⟩:=hcut;go_wp2_with fail;refine bodyPost_ret (v:=.tuple #[.agg (Aj g q),()]) (Jn rfl _ _ rfl (Ci ag Ar Kr Kr) rfl) rfl ?_;exact HQ.out s1 g b q a l _ Y.out ah ai aj ak
end Go.Proofs.YtmldoihahndcgaaGreatDoor
