import Derived.Test.YtmfkhdhnbkambaaGreatDoorHw00
import Derived.Test.YtmfkhdhnbkambaaGreatDoorHw24
import Derived.Test.YtmfkhdhnbkambaaGreatDoorHw02
import Derived.Test.YtmfkhdhnbkambaaGreatDoorHw07
import Derived.Test.YtmfkhdhnbkambaaGreatDoorHw15
import Derived.Test.YtmfkhdhnbkambaaGreatDoorHw27
set_option maxRecDepth 100000
set_option maxHeartbeats 16000000
set_option linter.unusedSimpArgs false
namespace Go.Proofs.YtmfkhdhnbkambaaGreatDoor
open Go.RowKit Sc
theorem aX (r:ByteArray)(w:World):
 Cr 50 #[r] w (.bool (decide (1≤r.size∧r.size≤400))):=by
 have a:decide ((1:Int)≤(r.size:Int))=decide (1≤r.size):=decide_eq_decide.2 (by omega);have c:decide ((r.size:Int)≤400)=decide (r.size≤400):=decide_eq_decide.2 (by omega);rw[Bool.decide_and]
 cases b:decide (1≤r.size)
 ·rw[b]at a
  go_enter Tryz.func50,Tryz.ntmps50;go_wp2_with fail;go_ret;exact⟨rfl,Below.refl _ _⟩
 ·rw[b]at a
  go_enter Tryz.func50,Tryz.ntmps50;go_wp2_with fail;go_ret;exact⟨by rw[Bool.true_and];rfl,Below.refl _ _⟩
theorem Vx (s:Tx.St)(p:SP)(s2:Tx.St)(c:SP)(x:Int)(e:x≠20)(w:World):
 Cr 57 #[Ah s p,Ah s2 c,x] w (if x=0 then Ah s2 c else Ah s p):=by
 have f:(x==20)=false:=beq_eq_false_iff_ne.2 e
 by_cases d:x=0
 ·rw[if_pos d]
  have g:(x==0)=true:=by rw[d];rfl
  clear d e f;go_enter Tryz.func57,Tryz.ntmps57;go_upto_region 1 with fail;have a:=Ol w (Ak s p) 36 (Ak s2 c) 36 #[(),(),(),"s",(),false,(),(),(),(),"","s",(),"s",()] 36;obtain⟨h,b⟩:=E0 a;rw[← b]at a ⊢;clear b
  go_wp2_with(first|with_reducible refine lL a.out.Aq Ar ?_|with_reducible refine lS (Ak s2 c) a.out.Cd ?_)
  refine rT1 a.out.Cd Ar ?_;exact⟨rfl,(a.out.row 2 (Ak s2 c) _ rfl).below⟩
 ·rw[if_neg d]
  have g:(x==0)=false:=beq_eq_false_iff_ne.2 d;clear d e;go_enter Tryz.func57,Tryz.ntmps57;go_upto_region 1 with fail;have a:=Ol w (Ak s p) 36 (Ak s2 c) 36 #[(),(),(),"s",(),false,(),(),(),(),"","s",(),"s",()] 36;obtain⟨h,b⟩:=E0 a;rw[← b]at a ⊢;clear b
  go_wp2_with(first|with_reducible refine lL a.out.Ao Ar ?_|with_reducible refine lS (Ak s p) a.out.Cd ?_)
  refine rT1 a.out.Cd Ar ?_;exact⟨rfl,(a.out.row 2 (Ak s p) _ rfl).below⟩
theorem aY {N n k:Nat}{ids:List Int}{c:Int}(s:Tx.St)(p:SP)(fs:List Fr)(C:Nat→ByteArray)(d:SS N n k ids c s fs C)(I:c+1634≤(N:Int)*128)(t:Int)(D:t∈ids)(pg:Nat)(m:pg<n)(o:Rc.Op)(b:ByteArray)
 (E:∀ l v,Rc.num l→Rc.num v→Rc.Bu (⟨l,v,t,2,(pg:Int),0,0,o,1,0,Rc.Ce,[],[]⟩:Rc.Rec)) (F:Lu b) (w:World) (i:∀ W,Bw w W→Cr 78 #[.string (C pg),.agg #[o.kind,o.slot,o.By,o.new]] W (Kn (b,0))) (h:Am w s p fs):
 Cq 56 #[Ah s p,t,.int .i64 (pg:Int),.agg #[o.kind,o.slot,o.By,o.new]] w (Pf N n C s fs t pg b w):=by
 have r:=Hq (fun W (G:Bw w W)=>Qw s p fs C d.pi t pg m o b (d.tx.ex D) d.tx.all d.tx.small E F (by have:=d.used;omega) W (fun J u=>i J (Ag G u)) (h.below G));clear d E i F h I D;have H:=Hq (fun(f:Tx.St) (q:SP) (a:List Fr) (l:Int) w' K L M O=>show Pf N n C s fs t pg b w (.returned (.tuple #[Ah f q,()])) w' from⟨f,q,a,l,rfl,K,L,M,O⟩);generalize x:Pf N n C s fs t pg b w=Q at H ⊢;clear x;go_enter Tryz.func56,Tryz.ntmps56;go_upto_region 1 with fail;have g:=Ol w (Ak s p) 36 #[o.kind,o.slot,o.By,o.new] 42 #[(),(),(),"s",(),false,(),(),(),(),"","s",(),"s",()] 36;obtain⟨P,j⟩:=E0 g;rw[← j]at g ⊢;clear j
 go_wp2_with(first
  |with_reducible refine lL g.out.Ao Ar ?_
  |with_reducible refine lL g.out.Aq oE ?_
  |(go_at_call 34;refine(r.out _ g.out.below).mono ?_;rintro e R ⟨f,q,a,l,rfl,y,z,A,B⟩;have H1:=Hq (g.out.step B))
  |with_reducible refine lS (Ak f q) H1.out.Cd ?_)
 refine rT2 () H1.out.Cd Ar ?_;exact H.out f q a l _ (y.other (t:=36) H1.out.Cd (by decide) (by decide) (by decide) _) z A (H1.out.row 2 (Ak f q) _ rfl).below
def gT (N n k:Nat)(ids:List Int)(c:Int)(C:Nat→ByteArray)(pg:Nat)(x:Int)(w:World)(e:Ending)(w':World):Prop:=
 ∃ (s':Tx.St) (q:SP) (fs':List Fr),e= .returned (.tuple #[Ah s' q,.string (C pg),x])∧Am w' s' q fs'∧SS N n k ids c s' fs' C∧Bw w w'
theorem qS {N n k:Nat}{ids:List Int}{c:Int}(s:Tx.St)(p:SP)(fs:List Fr)(C:Nat→ByteArray)(D:SS N n k ids c s fs C)(pg:Nat)(m:pg<n)(w:World)(h:Am w s p fs):
 Cq 58 #[Ah s p,.int .i64 (pg:Int)] w (gT N n k ids c C pg (if(Ab (C pg)).kind=2 then 0 else 1) w):=by
 have f:=Hq (fun W (K:Bw w W)=>Tq s p fs C D.pi pg m W (h.below K));have o:=D.pi.nm pg m;have g:=Hq (fun W=>Yn (C pg) (by rw[o.size];omega) W);have r:=Hq D;unfold uP at f;have i:=Hq (fun(I:Tx.St) (q:SP) (E:List Fr) w' L M O=>show gT N n k ids c C pg (if(Ab (C pg)).kind=2 then 0 else 1) w (.returned (.tuple #[Ah I q,.string (C pg),.int .i64 (if(Ab (C pg)).kind=2 then 0 else 1)])) w' from⟨I,q,E,rfl,L,M,O⟩);generalize gT N n k ids c C pg (if(Ab (C pg)).kind=2 then 0 else 1) w=Q at i ⊢;generalize (Ab (C pg)).kind=F at g i;generalize C pg=cp at f g i;clear h D o;go_enter Tryz.func58,Tryz.ntmps58;go_upto_region 1 with fail;have l:=Lx w (Ak s p) 36 #[(),(),(),"s",(),false,(),(),(),(),"","s",(),"s",()] 36;obtain⟨R,u⟩:=E0 l;rw[← u]at l ⊢;clear u
 go_upto_region 2 with(first
  |with_reducible refine lL l.out.Ao Ar ?_
  |(go_at_call 13;refine(f.out _ l.out.below).mono ?_;rintro e J ⟨s1,a,v,rfl,x,y,z,A⟩;have H1:=Hq (l.out.step A))
  |with_reducible refine lS (Ak s1 a) H1.out.Ao ?_)
 have G:=Hq (show Eg w.heap.size w [((Ak s1 a),36),(#[(),(),(),"s",(),false,(),(),(),(),"","s",(),"s",()],36)] (J.setRow w.heap.size (Ak s1 a))from H1.out.row 0 (Ak s1 a) _ rfl);have j:=Hq (x.other (t:=36) H1.out.Ao (by decide) (by decide) (by decide) (Ak s1 a));have B:=Hq (r.out.hk z y);generalize J.setRow w.heap.size (Ak s1 a)=w2 at G j ⊢;clear l H1 x y z A f r
 try simp only[Act.put]
 by_cases hk:F=2
 ·have H:((F:Int) != 2)=false:=by rw[hk];rfl
  rw[if_pos hk]at i
  go_wp2_with(first
   |(go_at_call 115;refine(g.out _).mono ?_;rintro e P ⟨rfl,b⟩;have d:=Hq (G.out.step b))
   |with_reducible refine lL d.out.Ao Ar ?_
   |with_reducible refine lS (Ak s1 a) d.out.Aq ?_)
  refine rT3 cp () d.out.Aq Ar ?_;exact i.out s1 a v _ ((j.out.below b).other (t:=36) d.out.Aq (by decide) (by decide) (by decide) _) B.out (d.out.row 1 (Ak s1 a) _ rfl).below
 ·have H:((F:Int) != 2)=true:=by rw[bne_iff_ne];omega
  rw[if_neg hk]at i
  go_wp2_with(first
   |(go_at_call 115;refine(g.out _).mono ?_;rintro e P ⟨rfl,b⟩;have d:=Hq (G.out.step b))
   |with_reducible refine lL d.out.Ao Ar ?_
   |with_reducible refine lS (Ak s1 a) d.out.Aq ?_)
  refine rT3 cp (.int .i64 1) d.out.Aq Ar ?_;exact i.out s1 a v _ ((j.out.below b).other (t:=36) d.out.Aq (by decide) (by decide) (by decide) _) B.out (d.out.row 1 (Ak s1 a) _ rfl).below
def J6 (R:Tx.St→List Fr→Int→Int→Prop)(w:World)(e:Ending)(w':World):Prop:=
 ∃ (s':Tx.St) (q:SP) (fs':List Fr) (x y:Int),e= .returned (.tuple #[Ah s' q,x,y])∧Am w' s' q fs'∧R s' fs' x y∧Bw w w'
theorem qT (s:Tx.St)(p:SP)(t:Int)(R:Tx.St→List Fr→Int→Int→Prop)(w:World)(a:∀ W,Bw w W→Cq 48 #[Ah s p,t,.int .i64 2] W (J6 R W)):
 Cq 16 #[Ah s p,t] w (J6 R w):=by
 have b:=Hq a;unfold J6 at b;have l:=Hq (fun(m:Tx.St) (q:SP) (f:List Fr) (x y:Int) w' n o r=>show J6 R w (.returned (.tuple #[Ah m q,x,y])) w' from⟨m,q,f,x,y,rfl,n,o,r⟩);generalize J6 R w=Q at l ⊢;clear a;go_enter Tryz.func16,Tryz.ntmps16;go_upto_region 1 with fail;have c:=Lx w (Ak s p) 36 #[(),(),(),"s",(),false,(),(),(),(),"","s",(),"s",()] 36;obtain⟨u,d⟩:=E0 c;rw[← d]at c ⊢;clear d
 go_wp2_with(first
  |with_reducible refine lL c.out.Ao Ar ?_
  |(go_at_call 48;refine(b.out _ c.out.below).mono ?_;rintro e v ⟨s1,g,h,x,y,rfl,i,j,k⟩;have H1:=Hq (c.out.step k))
  |with_reducible refine lS (Ak s1 g) H1.out.Aq ?_)
 refine rT3 x y H1.out.Aq Ar ?_;exact l.out s1 g h x y _ (i.other (t:=36) H1.out.Aq (by decide) (by decide) (by decide) _) j (H1.out.row 1 (Ak s1 g) _ rfl).below
def loose (t:TypeId):Bool:=t==3||t==4||t==44||t==67||t==26||t==80
structure Cl (B:Nat) (w w':World):Prop where
 bl:Below B w w'
 keep:∀ (k:Nat) (cs:Array Value) (t:TypeId) (f:Nat×Nat),w.heap[k]? =some (.cells cs t f)→loose t=false→t≠9→w'.heap[k]? =some (.cells cs t f)
 str:∀ (k:Nat) (cs:Array Value) (f:Nat×Nat),w.heap[k]? =some (.cells cs 9 f)→∃ cs':Array Value,w'.heap[k]? =some (.cells cs' 9 f)∧∀ (i:Nat) (x:ByteArray),x.size≠0→cs[i]? =some (.string x)→cs'[i]? =some (.string x)
theorem Cl.of {B:Nat}{w w':World}(h:Bw w w')(c:B≤w.heap.size):Cl B w w':=
 ⟨⟨h.os,h.tape,h.output,h.size,fun k hk=>h.block k (by omega)⟩,fun _ _ _ _ a _ _=>Af a h,fun _ cs _ a=>⟨cs,Af a h,fun _ _ _ b=>b⟩⟩
theorem Cl.trans {B:Nat}{w u v:World}(d:Cl B w u)(e:Cl B u v):Cl B w v:=
 ⟨⟨e.bl.os.trans d.bl.os,e.bl.tape.trans d.bl.tape,e.bl.output.trans d.bl.output,Nat.le_trans d.bl.size e.bl.size,fun k hk=>(e.bl.block k hk).trans (d.bl.block k hk)⟩,
  fun k cs t f a b c=>e.keep k cs t f (d.keep k cs t f a b c) b c,fun k cs f a=>by
   obtain⟨j,l,f1⟩:=d.str k cs f a;obtain⟨c2,m,f2⟩:=e.str k j f l;exact⟨c2,m,fun i x g h=>f2 i x g (f1 i x g h)⟩⟩
theorem Cl.row {B g:Nat}{w u:World}(h:Cl B w u)(i:B≤g)(m:w.heap.size≤g)(cs:Array Value):Cl B w (u.setRow g cs):=by
 have e:∀ k,k<w.heap.size→(u.setRow g cs).heap[k]? =u.heap[k]? :=fun k hk=>Ae _ _ _ _ (by omega);refine⟨Gx i h.bl cs,fun k d t f a b c=>(e k (Bt a)).trans (h.keep k d t f a b c),fun k d f a=>?_⟩;obtain⟨j,l,f1⟩:=h.str k d f a;exact⟨j,(e k (Bt a)).trans l,f1⟩
theorem Cl.box {B g:Nat}{w u:World}(h:Cl B w u)(l:B≤g){i:Array Value}{t:TypeId}{f:Nat×Nat}(j:u.heap[g]? =some (.cells i t f))(m:loose t=true)(n:t≠9)(cs:Array Value):Cl B w (u.setRow g cs):=by
 refine h.trans ⟨Gx l (Below.refl _ _) cs,fun k d p o a b c=>?_,fun k d o a=>⟨d,?_,fun _ _ _ h=>h⟩⟩
 ·refine(Ae _ _ _ _ (fun e=>?_)).trans a
  rw[e,j]at a;injection a with a;injection a with _ a;rw[← a,m]at b;cases b
 ·refine(Ae _ _ _ _ (fun e=>?_)).trans a
  rw[e,j]at a;injection a with a;injection a with _ a;exact n a
theorem T9 {w w':World}{A:Option Addr}{c n:Nat}{vs:List Value}{T:TypeId}(h:Reads w A c n vs)(e:De 0 w T A)(hk:∀ (k:Nat) (cs:Array Value) (f:Nat×Nat),w.heap[k]? =some (.cells cs T f)→w'.heap[k]? =some (.cells cs T f)):Reads w' A c n vs:=fun g=>by
 obtain⟨b,off,rfl,i,o,l⟩:=h g;obtain⟨_,cs,p,a⟩:=e _ rfl;have d:=hk _ _ _ a;exact⟨b,off,rfl,i,Bt d,fun j v m=>by rw[Aa d,← Aa a];exact l j v m⟩
theorem P8 {w w':World}{A:Option Addr}{T:TypeId}(a:De 0 w T A)(hk:∀ (k:Nat) (cs:Array Value) (f:Nat×Nat),w.heap[k]? =some (.cells cs T f)→∃ cs':Array Value,w'.heap[k]? =some (.cells cs' T f)):De 0 w' T A:=fun b e=>by
 obtain⟨c,cs,d,g⟩:=a b e;obtain⟨cs',h⟩:=hk _ _ _ g;exact⟨c,cs',d,h⟩
theorem Am.cl {B:Nat}{w w':World}{s:Tx.St}{p:SP}{fs:List Fr}(h:Am w s p fs)(r:∀ x∈s.Az.sectors,x.size≠0)(d:Cl B w w'):Am w' s p fs:=by
 have i:∀ (k:Nat) (cs:Array Value) (f:Nat×Nat),w.heap[k]? =some (.cells cs 59 f)→w'.heap[k]? =some (.cells cs 59 f):=fun k cs f a=>d.keep k cs _ f a (by decide) (by decide);have l:∀ (k:Nat) (cs:Array Value) (f:Nat×Nat),w.heap[k]? =some (.cells cs 108 f)→w'.heap[k]? =some (.cells cs 108 f):=fun k cs f a=>d.keep k cs _ f a (by decide) (by decide);refine⟨⟨⟨fun t=>?_,h.st.dk.small⟩,P8 h.st.dt fun k cs f a=>?_,T9 h.st.tx h.st.tt i,P8 h.st.tt fun k cs f a=>⟨cs,i k cs f a⟩⟩,h.fn,T9 h.fr h.ft l,P8 h.ft fun k cs f a=>⟨cs,l k cs f a⟩⟩
 ·obtain⟨b,off,m,u,D,y⟩:=h.st.dk.secs t
  obtain⟨_,cs,E,n⟩:=h.st.dt _ m;obtain⟨c,e,z⟩:=d.str _ _ _ n;refine⟨b,off,m,u,Bt e,fun j v o=>?_⟩;have q:=y j v o;rw[Aa n]at q;rw[Aa e];have A:v∈s.Az.sectors.flatMap Hn:=List.mem_of_getElem? o;obtain⟨x,C,g⟩:=List.mem_flatMap.1 A;obtain rfl:v= .string x:=by simpa[Hn]using g
  exact z _ x (r x C) q
 ·obtain⟨c,e,_⟩:=d.str _ _ _ a
  exact⟨c,e⟩
theorem SS.whole {N n k:Nat}{ids:List Int}{c:Int}{s:Tx.St}{fs:List Fr}{C:Nat→ByteArray}(h:SS N n k ids c s fs C):∀ x∈s.Az.sectors,x.size≠0:=fun x a=>by rw[h.pi.pw.whole x a];decide
structure aZ (n:Nat) (u:Nat→Nat) (V:Nat→Nat×List ByteArray) (l:List Nat):Prop where
 pos:0<l.length
 len:l.length≤n
 at_:∀ j (h:j<l.length),1≤l[j]∧l[j]<n∧u l[j]=2
 ln:∀ j (h:j<l.length),(V l[j]).1=(l[j+1]?).getD 0
structure Ea (N n k:Nat) (ids:List Int) (c:Int) (C:Nat→ByteArray) (B:Nat) (I:Nat→World→Prop) (w:World) (j:Nat) (s:Tx.St) (p:SP) (fs:List Fr) (u:World):Prop where
 b0:u.heap[w.heap.size]? =some (.cells (Ak s p) 36 (0,0))
 b1:u.heap[w.heap.size+1]? =some (.cells #[(),(),(),"s",(),false,(),(),(),(),"","s",(),"s",()] 36 (0,0))
 pr:Am u s p fs
 ss:SS N n k ids c s fs C
 iv:I j u
 cl:Cl B w u
def Vy (N n k:Nat)(ids:List Int)(c:Int)(C:Nat→ByteArray)(B:Nat)(I:Nat→World→Prop)(j:Nat)(w:World)(e:Ending)(w':World):Prop:=
 ∃ (s':Tx.St) (q:SP) (fs':List Fr),e= .returned (.tuple #[Ah s' q,()])∧Am w' s' q fs'∧SS N n k ids c s' fs' C∧I j w'∧Cl B w w'
section
variable {N n k : Nat} {ids : List Int} {c : Int} {C : Nat → ByteArray} {B : Nat} {I : Nat → World → Prop} {w : World} (hIb : ∀ (j : Nat) (W W' : World), I j W → Bw W W' → I j W') (hIs : ∀ (j : Nat) (W : World) (g : Nat) (cs cs' : Array Value), I j W → W.heap[g]? = some (.cells cs 36 (0, 0)) → I j (W.setRow g cs'))
include hIb in
theorem Ea.below {j:Nat}{s:Tx.St}{p:SP}{fs:List Fr}{u v:World}(h:Ea N n k ids c C B I w j s p fs u)(a:Bw u v)(b:B≤w.heap.size):Ea N n k ids c C B I w j s p fs v:=
 ⟨Af h.b0 a,Af h.b1 a,h.pr.below a,h.ss,hIb _ _ _ h.iv a,h.cl.trans (Cl.of a (Nat.le_trans b h.cl.bl.size))⟩
include hIs in
theorem Ea.put {j:Nat}{s s1:Tx.St}{p q:SP}{fs a:List Fr}{u:World}(h:Ea N n k ids c C B I w j s p fs u)(b:Am u s1 q a)(d:SS N n k ids c s1 a C)(e:B≤w.heap.size):Ea N n k ids c C B I w j s1 q a (u.setRow w.heap.size (Ak s1 q)):=
 ⟨setRow_heap _ _ _ _ _ _ h.b0,(Ae _ _ _ _ (by omega)).trans h.b1,b.other (t:=36) h.b0 (by decide) (by decide) (by decide) _,d,hIs _ _ _ _ _ h.iv h.b0,h.cl.row e (Nat.le_refl _) _⟩
theorem Ea.xV {j:Nat}{s:Tx.St}{p:SP}{fs:List Fr}{u v:World}(h:Ea N n k ids c C B I w j s p fs u)(a:Cl B u v)(hi:I (j+1) v):Ea N n k ids c C B I w (j+1) s p fs v:=
 ⟨a.keep _ _ _ _ h.b0 (by decide) (by decide),a.keep _ _ _ _ h.b1 (by decide) (by decide),h.pr.cl h.ss.whole a,h.ss,hi,h.cl.trans a⟩
end
theorem Ua {N n k:Nat}{ids:List Int}{c:Int}{C:Nat→ByteArray}{B:Nat}{I:Nat→World→Prop}(L:∀ (j:Nat) (W W':World),I j W→Bw W W'→I j W')(M:∀ (j:Nat) (W:World) (g:Nat) (cs cs':Array Value),I j W→W.heap[g]? =some (.cells cs 36 (0,0))→I j (W.setRow g cs'))
 (s:Tx.St) (p:SP) (fs:List Fr) (hS:SS N n k ids c s fs C) {b:ByteArray} {u:Nat→Nat} {V:Nat→Nat×List ByteArray} (hu:SI n C b u V) (l:List Nat) (hl:aZ n u V l) (m:Nat)
 (g:Nat) (cb:Array Value) (eg:∀ args w,(callFunc g args).run Tryz.prog w= .ok (.enter g args) w)
 (aa:∀ (j:Nat) (hj:j<l.length),j≤m→∀ W,I j W→B≤W.heap.size→Cq g (#[.int .i64 (l[j]:Int),.string (C l[j])]++cb) W fun e W'=>e= .returned (.bool (decide (j≠m)))∧I (j+1) W'∧Cl B W W')
 (r:Int) (hr:r=((l[0]?).getD 0:Nat)) (w:World) (h:Am w s p fs) (hI:I 0 w) (O:B≤w.heap.size):
 Cq 51 #[Ah s p,r,.func (.func g) #[] cb] w (Vy N n k ids c C B I (min (m+1) l.length) w):=by
 have HQ:=Hq (fun(s':Tx.St) (q:SP) (ak:List Fr) w' h1 h2 h3 h4=>show Vy N n k ids c C B I (min (m+1) l.length) w (.returned (.tuple #[Ah s' q,()])) w' from⟨s',q,ak,rfl,h1,h2,h3,h4⟩);generalize Vy N n k ids c C B I (min (m+1) l.length) w=Q at HQ ⊢;have ad:=Hq aa;have al:=Hq hr;have HN:=Hq hS.pi.n1;have aq:=hl.pos;have ar:=hl.len;have ao:=hS.pi.n1;clear aa hr;go_enter Tryz.func51,Tryz.ntmps51;go_upto_region 2 with fail;have i:=Hq (show Ea N n k ids c C B I w 0 s p fs ((w.alloc (.cells (Ak s p) 36)).alloc (.cells #[(),(),(),"s",(),false,(),(),(),(),"","s",(),"s",()] 36))from by
  have hb:=Ag (Ac w (.cells (Ak s p) 36)) (Ac (w.alloc (.cells (Ak s p) 36)) (.cells #[(),(),(),"s",(),false,(),(),(),(),"","s",(),"s",()] 36));refine⟨Af (heap_alloc_new w (.cells (Ak s p) 36)) (Ac _ _),?_,h.below hb,hS,L _ _ _ hI hb,Cl.of hb O⟩;have h9:=heap_alloc_new (w.alloc (.cells (Ak s p) 36)) (.cells #[(),(),(),"s",(),false,(),(),(),(),"","s",(),"s",()] 36)
  rwa[show(w.alloc (.cells (Ak s p) 36)).heap.size=w.heap.size+1 from by simp]at h9)
 obtain⟨W0,ae⟩:=ex ((w.alloc (.cells (Ak s p) 36)).alloc (.cells #[(),(),(),"s",(),false,(),(),(),(),"","s",(),"s",()] 36));rw[← ae]at i ⊢;clear ae h hI;go_wp2_with fail
 go_loopw [8,9] (fun x y wr=>∃ (j:Nat) (s:Tx.St) (p:SP) (fs:List Fr),j≤l.length∧j≤m∧x= .int .i64 ((l[j]?).getD 0:Nat)∧y= .int .i64 (j:Int)∧Ea N n k ids c C B I w j s p fs wr) (fun _ y _=>l.length-(intOf y).toNat)
 case atStart=>exact⟨0,s,p,fs,Nat.zero_le _,Nat.zero_le _,by rw[al.out],rfl,i.out⟩
 case round=>
  clear i hS;obtain⟨v0,rfl⟩:=ex wr;obtain⟨j,s,p,fs,au,an,rfl,rfl,Y⟩:=hrel
  by_cases Z:j<l.length
  ·have o:=hl.at_ j Z
   have af:=hl.ln j Z;rw[show(l[j]?).getD 0=l[j]from by rw[List.getElem?_eq_getElem Z];rfl];have K:=Hq (fun W (hi:I j W) (hb:B≤W.heap.size)=>ad.out j Z an W hi hb);have a1:=hu.kp l[j] o.1 o.2.1;have a6:=hu.lp l[j] o.1 o.2.1;rw[af]at a6;rw[o.2.2]at a1;have HG:=Hq (fun W (hw:Bw v0 W)=>qS s p fs C Y.ss l[j] o.2.1 W (Y.pr.below hw));unfold gT at HG;rw[if_pos a1]at HG;have ag:=Y.ss.pi.nm l[j] o.2.1;have HL:=Hq (fun W=>Yo (C l[j]) (by rw[ag.size];omega) W);rw[a6]at HL;have ah:=Y.ss.pi.zp;have ai:=show v0.cell? ⟨w.heap.size,1,none⟩=some (.int .i64 (n:Int))from(by rw[Aa Y.b0,← ah];rfl);have i:=Hq Y;obtain⟨nx,a7⟩:=ex ((l[j+1]?).getD 0);rw[← a7]at HL;have aj:=Hq a7;clear a7;generalize C l[j]=cp at HG HL K;generalize l[j]=pg at o HG K;have av:((pg:Int) != 0)=true:=(by rw[bne_iff_ne];omega);have aw:¬ (n:Int)<(j:Int):=(by omega);have ax:IntKind.i64.wrap ((j:Int)+1)=(j:Int)+1:=IntWalk.i64_in _ (by omega);have ay:((j:Int)==0||true)=true:=Bool.or_true _;clear Y af a6 a1 ag o ah;go_upto_if 19 with fail
   ·go_upto_region 8 with(first
     |with_reducible refine lL i.out.b0 Ar ?_
     |(go_at_call 58;refine(HG.out _ (Below.refl _ _)).mono ?_;rintro e v1 ⟨s1,f,P,rfl,R,S,T⟩)
     |with_reducible refine sN (Ak s1 f) ?_)
    have U:=Ag T (Ac v1 (.cells (Ak s1 f) 36));have v:=Hq (i.out.below L U O);have E:=Hq (heap_alloc_new v1 (.cells (Ak s1 f) 36));have F:=Hq (R.below (Ac v1 (.cells (Ak s1 f) 36)));have X:=Hq S;obtain⟨g10,G⟩:=ex v1.heap.size;obtain⟨v2,z⟩:=ex (v1.alloc (.cells (Ak s1 f) 36));rw[← G,← z]at E;rw[← z]at v F;rw[← z,← G];clear z G T U R S i HG ai
    try simp only[Act.put]
    go_upto_region 9 with(first
     |with_reducible refine lL E.out Ar ?_
     |with_reducible refine lS (Ak s1 f) v.out.b0 ?_)
    have a:=Hq (v.out.put M F.out X.out O);generalize v2.setRow w.heap.size (Ak s1 f)=v3 at a ⊢;clear v E F X
    try simp only[Act.put]
    by_cases hm:j=m
    ·have H:decide (j≠m)=false:=decide_eq_false (fun h=>h hm)
     rw[H]at K;have D:min (m+1) l.length=j+1:=(by omega);rw[D]at HQ
     go_upto_if 44 with(go_at_fn g;refine(K.out _ a.out.iv (Nat.le_trans O a.out.cl.bl.size)).mono ?_;rintro e v4 ⟨rfl,J,A⟩;have d:=Hq (a.out.xV A J))
     clear a A K
     go_wp2_with(first
      |with_reducible refine lL d.out.b0 Ar ?_
      |with_reducible refine lS (Ak s1 f) d.out.b1 ?_)
     refine rT2 () d.out.b1 Ar ?_;exact HQ.out s1 f P _ (d.out.pr.other (t:=36) d.out.b1 (by decide) (by decide) (by decide) _) d.out.ss (M _ _ _ _ _ (by exact d.out.iv) d.out.b1) (d.out.cl.row (by omega) (by omega) _)
    ·have H:decide (j≠m)=true:=decide_eq_true hm
     rw[H]at K
     go_wp2_with(first
      |(go_at_fn g;refine(K.out _ a.out.iv (Nat.le_trans O a.out.cl.bl.size)).mono ?_;rintro e v4 ⟨rfl,J,A⟩;have d:=Hq (a.out.xV A J))
      |(go_at_call 108;refine(HL.out _).mono ?_;rintro e v5 ⟨rfl,a8⟩))
     go_roundw
     case rel=>exact⟨j+1,s1,f,P,by omega,by omega,by rw[aj.out],by go_num,d.out.below L a8 O⟩
     case measure=>simp[intOf];omega
   ·go_upto_region 8 with(first
     |with_reducible refine lL i.out.b0 Ar ?_
     |(go_at_call 58;refine(HG.out _ (Below.refl _ _)).mono ?_;rintro e v1 ⟨s1,f,P,rfl,R,S,T⟩)
     |with_reducible refine sN (Ak s1 f) ?_)
    have U:=Ag T (Ac v1 (.cells (Ak s1 f) 36));have v:=Hq (i.out.below L U O);have E:=Hq (heap_alloc_new v1 (.cells (Ak s1 f) 36));have F:=Hq (R.below (Ac v1 (.cells (Ak s1 f) 36)));have X:=Hq S;obtain⟨g10,G⟩:=ex v1.heap.size;obtain⟨v2,z⟩:=ex (v1.alloc (.cells (Ak s1 f) 36));rw[← G,← z]at E;rw[← z]at v F;rw[← z,← G];clear z G T U R S i HG ai
    try simp only[Act.put]
    go_upto_region 9 with(first
     |with_reducible refine lL E.out Ar ?_
     |with_reducible refine lS (Ak s1 f) v.out.b0 ?_)
    have a:=Hq (v.out.put M F.out X.out O);generalize v2.setRow w.heap.size (Ak s1 f)=v3 at a ⊢;clear v E F X
    try simp only[Act.put]
    by_cases hm:j=m
    ·have H:decide (j≠m)=false:=decide_eq_false (fun h=>h hm)
     rw[H]at K;have D:min (m+1) l.length=j+1:=(by omega);rw[D]at HQ
     go_upto_if 44 with(go_at_fn g;refine(K.out _ a.out.iv (Nat.le_trans O a.out.cl.bl.size)).mono ?_;rintro e v4 ⟨rfl,J,A⟩;have d:=Hq (a.out.xV A J))
     clear a A K
     go_wp2_with(first
      |with_reducible refine lL d.out.b0 Ar ?_
      |with_reducible refine lS (Ak s1 f) d.out.b1 ?_)
     refine rT2 () d.out.b1 Ar ?_;exact HQ.out s1 f P _ (d.out.pr.other (t:=36) d.out.b1 (by decide) (by decide) (by decide) _) d.out.ss (M _ _ _ _ _ (by exact d.out.iv) d.out.b1) (d.out.cl.row (by omega) (by omega) _)
    ·have H:decide (j≠m)=true:=decide_eq_true hm
     rw[H]at K
     go_wp2_with(first
      |(go_at_fn g;refine(K.out _ a.out.iv (Nat.le_trans O a.out.cl.bl.size)).mono ?_;rintro e v4 ⟨rfl,J,A⟩;have d:=Hq (a.out.xV A J))
      |(go_at_call 108;refine(HL.out _).mono ?_;rintro e v5 ⟨rfl,a8⟩))
     go_roundw
     case rel=>exact⟨j+1,s1,f,P,by omega,by omega,by rw[aj.out],by go_num,d.out.below L a8 O⟩
     case measure=>simp[intOf];omega
  ·obtain rfl:j=l.length:=by omega
   rw[show(l[l.length]?).getD 0=0 from by rw[List.getElem?_eq_none (Nat.le_refl _)];rfl];have az:((l.length:Int)==0)=false:=beq_eq_false_iff_ne.2 (by omega);have D:min (m+1) l.length=l.length:=(by omega);rw[D]at HQ;have i:=Hq Y;clear Y ad
   go_wp2_with(first
    |with_reducible refine lL i.out.b0 Ar ?_
    |with_reducible refine lS (Ak s p) i.out.b1 ?_)
   refine rT2 () i.out.b1 Ar ?_;exact HQ.out s p fs _ (i.out.pr.other (t:=36) i.out.b1 (by decide) (by decide) (by decide) _) i.out.ss (M _ _ _ _ _ (by exact i.out.iv) i.out.b1) (i.out.cl.row (by omega) (by omega) _)
theorem mJ {p q:ByteArray}{rs:List ByteArray}(b:∀ r∈rs,r.size≤400)(h:Pg.Ek (A6 p rs)=(q,0)):Lu q∧Ab q=A6 p (Pg.trim rs):=by
 have e:=I8 b h;rcases Mm (A6 p rs)with⟨f,a⟩|⟨_,a⟩
 ·rw[a]at h
  injection h with g _
  obtain⟨c,d⟩:=Ml (Dz p rs) f b;rw[g]at c d;exact⟨⟨c,e⟩,d⟩
 ·rw[a]at h
  injection h with _ h
  omega
theorem Pr (rs:List ByteArray)(r:ByteArray)(k:Nat):Pg.An (Pg.putAt rs k r)+(Pg.Cy rs k).size=Pg.An rs+r.size:=by
 unfold Pg.putAt;have a:k<(rs++List.replicate (k+1-rs.length) (⟨#[]⟩:ByteArray)).length:=by simp;omega
 have b:=Pg.Oy _ k r a;rw[Pg.D4,Pg.Jg]at b;have c:((rs++List.replicate (k+1-rs.length) (⟨#[]⟩:ByteArray))[k]).size=(Pg.Cy rs k).size:=by
  by_cases h:k<rs.length
  ·rw[List.getElem_append_left h,Pg.Sy h]
  ·rw[List.getElem_append_right (by omega),List.getElem_replicate,Pg.Jk (by omega)]
 omega
def Kg (rs:List ByteArray)(k:Nat)(r:ByteArray):List ByteArray:=Pg.trim (Pg.putAt rs k r)
def No (p:ByteArray)(k:Nat)(r:ByteArray):ByteArray:=Dl (A6 p (Pg.putAt (Ab p).Ai k r))
structure qU (p q:ByteArray) (k:Nat) (r:ByteArray):Prop where
 nm:Lu q
 leaf:Ab q=A6 p (Kg (Ab p).Ai k r)
theorem tT {p r:ByteArray}{k:Nat}(_:Lu p)(b:r.size≤400)(c:Pg.Ay (Pg.trim (Pg.putAt (Ab p).Ai k r))≤512):Pg.Ek (A6 p (Pg.putAt (Ab p).Ai k r))=(No p k r,0)∧qU p (No p k r) k r:=by
 have h:=J1 (x:=A6 p (Pg.putAt (Ab p).Ai k r)) c;have a:=mJ (Pg.Gm (En p) b) h;exact⟨h,a.1,a.2⟩
theorem qV {p r:ByteArray}(a:Lu p)(e:1≤r.size∧r.size≤400)(f:(r.size:Int)≤Jf p):
 S1 p ⟨1,(Pg.Db (Ab p).Ai:Nat),⟨#[]⟩,r⟩=(No p (Pg.Db (Ab p).Ai) r,0)∧qU p (No p (Pg.Db (Ab p).Ai) r) (Pg.Db (Ab p).Ai) r:=by
 have i:=Cj p;have l:=i.fine.len;have j:=Pg.Ru (Ab p).Ai;have k:=Pg.jR (Ab p).Ai;have g:=Pr (Ab p).Ai r (Pg.Db (Ab p).Ai);unfold Jf Je at f;rw[if_pos a.is]at f;have b:Pg.Ay (Pg.trim (Pg.putAt (Ab p).Ai (Pg.Db (Ab p).Ai) r))≤512:=by
  refine Nat.le_trans (Pg.R3 _) ?_;unfold Pg.Ay;rw[Pg.Lc];omega
 have h:=tT a e.2 b;refine⟨?_,h.2⟩;have c:Iw p (Pg.Db (Ab p).Ai:Nat) r=(No p (Pg.Db (Ab p).Ai) r,0):=by
  rw[W9 a.is k (by unfold Hh;exact decide_eq_true e) (by omega)];exact h.1
 have d:Cb p ⟨1,(Pg.Db (Ab p).Ai:Nat),⟨#[]⟩,r⟩=(No p (Pg.Db (Ab p).Ai) r,true):=by
  unfold Cb;rw[if_pos (show(1:Int)=1 from rfl),if_pos (show(⟨#[]⟩:ByteArray).size=0 from rfl),c];rfl
 unfold S1 Dm;rw[d,a.is];rfl
theorem tU {p:ByteArray}(a:Lu p)(f:(Ab p).link=0){k:Nat}(hk:k<16777216):
 S1 p ⟨6,0,F1 0,F1 (k:Int)⟩=(Dy p (k:Int),0)∧Lu (Dy p (k:Int))∧Ab (Dy p (k:Int))=⟨(Ab p).lsn,(Ab p).kind,k,(Ab p).Ai⟩:=by
 obtain⟨d,e,g⟩:=Va a.is hk;have b:decide ((Dy p (k:Int)).size=0)=false:=decide_eq_false (by rw[g];decide);have c:Cb p ⟨6,0,F1 0,F1 (k:Int)⟩=(Dy p (k:Int),true):=by
  unfold Cb;rw[if_neg (show ¬ (6:Int)=1 by decide),if_neg (show ¬ (6:Int)=2 by decide),if_neg (show ¬ (6:Int)=3 by decide),if_neg (show ¬ (6:Int)=4 by decide),if_neg (show ¬ (6:Int)=5 by decide),if_pos (show(6:Int)=6 from rfl)];unfold Ds;rw[Vb k hk]
  show(if _ then _ else _)=_
  rw[if_pos ⟨rfl,by rw[f];rfl,rfl⟩,b];rfl
 refine⟨?_,⟨d,?_⟩,e⟩
 ·unfold S1 Dm
  rw[c,a.is];rfl
 ·rw[Mo d,e,Nc a.is hk]
def gU (R:Tx.St→List Fr→Int→Prop)(w:World)(e:Ending)(w':World):Prop:=
 ∃ (s':Tx.St) (q:SP) (fs':List Fr) (y:Int),e= .returned (.tuple #[Ah s' q,y])∧Am w' s' q fs'∧R s' fs' y∧Bw w w'
theorem bA (s:Tx.St)(p:SP)(_:List Fr)(t last m:Int)(R1:Tx.St→List Fr→Int→Int→Prop)(R2:Int→Tx.St→List Fr→Int→Prop)(R:Tx.St→List Fr→Int→Int→Prop)(w:World)
 (H:∀ W,Bw w W→Cr 112 #[Ah s p,t] W (.int .i64 m))
 (I:∀ W,Bw w W→Cq 48 #[Ah s p,t,.int .i64 2] W (J6 R1 W))
 (J:∀ s1 fs1 x y,R1 s1 fs1 x y→y≠0→R s1 fs1 0 y)
 (L:∀ s1 fs1 x,R1 s1 fs1 x 0→∀ W,Bw w W→Cr 113 #[x] W (.string (F1 x)))
 (M:∀ s1 q1 fs1 x,R1 s1 fs1 x 0→∀ W,Bw w W→Am W s1 q1 fs1→Cq 56 #[Ah s1 q1,t,last,.agg #[.int .i64 6,(),.string ⟨#[48]⟩,.string (F1 x)]] W (gU (R2 x) W))
 (N:∀ x s2 fs2 y,R2 x s2 fs2 y→y≠0→R s2 fs2 0 y)
 (O:∀ x s2 q2 fs2,R2 x s2 fs2 0→∀ W,Am W s2 q2 fs2→Cq 114 #[Ah s2 q2,t,m] W (gU (fun s3 fs3 y=>R s3 fs3 x y) W)):
 Cq 55 #[Ah s p,t,last] w (J6 R w):=by
 have P:=Hq H;have B:=Hq I;have T:=Hq L;have C:=Hq M;have U:=Hq O;have V:=Hq J;have ah:=Hq N;unfold J6 at B;unfold gU at C U;have HQ:=Hq (fun(s':Tx.St) (q:SP) (ai:List Fr) (x y:Int) w' h1 h2 h3=>show J6 R w (.returned (.tuple #[Ah s' q,x,y])) w' from⟨s',q,ai,x,y,rfl,h1,h2,h3⟩);generalize J6 R w=Q at HQ ⊢;clear H I L M O J N;go_enter Tryz.func55,Tryz.ntmps55;go_upto_region 1 with fail;have F:=Lx w (Ak s p) 36 #[(),(),(),"s",(),false,(),(),(),(),"","s",(),"s",()] 36;obtain⟨W0,X⟩:=E0 F;rw[← X]at F ⊢;clear X
 go_upto_region 3 with(first
  |with_reducible refine lL F.out.Ao Ar ?_
  |(go_at_call 112;refine(P.out _ F.out.below).mono ?_;rintro e w1 ⟨rfl,Y⟩;have H1:=Hq (F.out.step Y))
  |with_reducible refine lL H1.out.Ao Ar ?_
  |(go_at_call 48;refine(B.out _ H1.out.below).mono ?_;rintro e w2 ⟨s1,q1,fs1,x,y,rfl,Z,a1,a6⟩;have d:=Hq (H1.out.step a6))
  |with_reducible refine lS (Ak s1 q1) d.out.Ao ?_)
 have b:=Hq (show Eg w.heap.size w [((Ak s1 q1),36),(#[(),(),(),"s",(),false,(),(),(),(),"","s",(),"s",()],36)] (w2.setRow w.heap.size (Ak s1 q1))from d.out.row 0 (Ak s1 q1) _ rfl);have D:=Hq (Z.other (t:=36) d.out.Ao (by decide) (by decide) (by decide) (Ak s1 q1));have f:=Hq a1;generalize w2.setRow w.heap.size (Ak s1 q1)=w3 at b D ⊢;clear F H1 d Z a1 Y a6 P B
 try simp only[Act.put]
 by_cases g:y=0
 case neg=>
  have aj:(y != 0)=true:=bne_iff_ne.2 g;have HR:=Hq (V.out _ _ _ _ f.out g);clear g
  go_wp2_with(first
   |with_reducible refine lL b.out.Ao Ar ?_
   |with_reducible refine lS (Ak s1 q1) b.out.Aq ?_)
  refine rT3 () y b.out.Aq Ar ?_;exact HQ.out s1 q1 fs1 _ _ _ (D.out.other (t:=36) b.out.Aq (by decide) (by decide) (by decide) _) HR.out (b.out.row 1 (Ak s1 q1) _ rfl).below
 subst g;have HC:=Hq (fun W hp=>C.out s1 q1 fs1 x f.out W hp);have HI:=Hq (fun W hp=>T.out s1 fs1 x f.out W hp);clear C T V f;go_upto_region 5 with fail;have hSn:Bw w3 w3.drew:=(Below.refl _ w3).drew;refine Fu (S:=(fun u=>Bw w3 u)) 10 Kr ?_ (fun a=>?_)
 ·exact hSn
 generalize w3.drew=v7 at hSn ⊢;refine Aw (i:=0) (oi:={dst:=some 27,op:=_,type:=_,pos:=_,after:=_,guard:=_}) (v:=.agg (Ak s1 q1)) (p:=[10]) rfl Kr Kr Kr Kr Kr Kr (fun _ _ _ h=>h) (yieldsIf_load_mid (by rfl) 36 (.tmp 3) rfl w.heap.size 0 (by rfl) (Ak s1 q1).toList _ (fun u hu=>(by intro j v hj;rw[Nat.zero_add,Aa (Af b.out.Ao hu)];simpa using hj)) Ar Kr Kr) (by assumption) ?_
 try simp only[Act.put,pS]
 refine mR 1 [10] ?_;refine mR 2 [10] ?_;refine mR 3 [10] ?_;refine Bo (rs:=[4]) Kr (by simp) ?_;refine(Au.cons (o:={dst:=some 31,op:=_,type:=_,pos:=_,after:=_,guard:=_}) rfl (fun K z=>?_) Au.nil)
 go_simp
 (refine(HI.out _ (Ag b.out.below hSn)).mono ?_);rintro e v8 ⟨rfl,k⟩;have c:=Ag hSn k;clear hSn;have hSn:=c;clear c
 refine Cw z (fun a=>?_);clear z K;refine mR 5 [10] ?_;refine Bo (rs:=[6]) Kr (by simp) ?_;refine(Au.cons (o:={dst:=some 33,op:=_,type:=_,pos:=_,after:=_,guard:=_}) rfl (fun K z=>?_) Au.nil)
 go_simp
 (refine(HC.out _ (Ag b.out.below hSn) (D.out.below hSn)).mono ?_);rintro e v9 ⟨s2,q2,fs2,y2,rfl,a7,a8,ak⟩;have c:=Ag hSn ak;clear hSn;have hSn:=c;clear c
 refine Cw z (fun a=>?_);clear z K;refine mR 7 [10] ?_;refine mR 8 [10] ?_;refine Dn (i:=9) (oi:={dst:=some 35,op:=_,type:=_,pos:=_,after:=_,guard:=_}) (v:=?_) rfl Kr Kr Kr Kr (fun _ _ _ h=>h) (Or.inl ⟨by rfl,?_⟩) (fun _=>by assumption) ?_
 rotate_left
 ·intro u E;clear E;go_simp;(try with_reducible rfl)
 try simp only[Act.put,pS]
 refine Bo (rs:=[10]) Kr (by simp) ?_;refine(Au.last (o:={dst:=none,op:=_,type:=_,pos:=_,after:=_,guard:=_}) rfl Kr (fun K z=>?_) Au.nil);refine Cc (by rfl) ?_;refine sW (Ak s2 q2) (Af b.out.Ao hSn) ?_;have aa:=(b.out.step hSn).row 0 (Ak s2 q2) _ rfl;have A:=a7.other (t:=36) (Af b.out.Ao hSn) (by decide) (by decide) (by decide) (Ak s2 q2);refine z.out _ _ ?_;clear z K
 try simp only[Act.put]
 refine Dn (i:=11) (oi:={dst:=some 11,op:=_,type:=_,pos:=_,after:=_,guard:=_}) (v:=?_) rfl Kr Kr Kr Kr (fun _ _ _ h=>h) (Or.inl ⟨by rfl,?_⟩) (fun h=>absurd h (by decide)) ?_
 rotate_left
 ·intro u E;clear E;go_simp;(try with_reducible rfl)
 try simp only[Act.put,pS]
 refine Ft Kr ?_ _
 skip
 try clear a
 try simp only[Act.put]
 have l:=Hq aa;have n:=Hq A;have ad:=Hq a8;clear aa A a8 hSn a7
 try clear hst
 generalize v9.setRow w.heap.size (Ak s2 q2)=w7 at l n ⊢
 by_cases g:y2=0
 case neg=>
  have aj:(y2 != 0)=true:=bne_iff_ne.2 g;have HR:=Hq (ah.out _ _ _ _ ad.out g);clear g
  go_wp2_with(first
   |with_reducible refine lL l.out.Ao Ar ?_
   |with_reducible refine lS (Ak s2 q2) l.out.Aq ?_)
  refine rT3 () y2 l.out.Aq Ar ?_;exact HQ.out s2 q2 fs2 _ _ _ (n.out.other (t:=36) l.out.Aq (by decide) (by decide) (by decide) _) HR.out (l.out.row 1 (Ak s2 q2) _ rfl).below
 subst g;have HN:=Hq (fun W hp=>U.out x s2 q2 fs2 ad.out W hp)
 go_upto_region 9 with(first
  |with_reducible refine lL l.out.Ao Ar ?_
  |(go_at_call 114;refine(HN.out _ n.out).mono ?_;rintro e w8 ⟨s3,r,fs3,y3,rfl,ae,af,k⟩;have H8:=Hq (l.out.step k))
  |with_reducible refine lS (Ak s3 r) H8.out.Ao ?_)
 have G:=Hq (show Eg w.heap.size w [((Ak s3 r),36),(#[(),(),(),"s",(),false,(),(),(),(),"","s",(),"s",()],36)] (w8.setRow w.heap.size (Ak s3 r))from H8.out.row 0 (Ak s3 r) _ rfl);have ag:=Hq (ae.other (t:=36) H8.out.Ao (by decide) (by decide) (by decide) (Ak s3 r));have HR:=Hq af;generalize w8.setRow w.heap.size (Ak s3 r)=w9 at G ag ⊢;clear l H8 ae af k n
 try simp only[Act.put]
 go_wp2_with(first
  |with_reducible refine lL G.out.Ao Ar ?_
  |with_reducible refine lS (Ak s3 r) G.out.Aq ?_)
 refine rT3 x y3 G.out.Aq Ar ?_;exact HQ.out s3 r fs3 _ _ _ (ag.out.other (t:=36) G.out.Aq (by decide) (by decide) (by decide) _) HR.out (G.out.row 1 (Ak s3 r) _ rfl).below
end Go.Proofs.YtmfkhdhnbkambaaGreatDoor
