import Derived.Test.YtpogpkonojhakaaGreatDoorHk00
import Derived.Test.YtpogpkonojhakaaGreatDoorHk14
import Derived.Test.YtpogpkonojhakaaGreatDoorHk26
import Derived.Test.YtpogpkonojhakaaGreatDoorHk31
import Derived.Test.YtpogpkonojhakaaGreatDoorHk32
set_option maxRecDepth 100000
set_option maxHeartbeats 16000000
set_option linter.unusedSimpArgs false
namespace Go.Proofs.YtpogpkonojhakaaGreatDoor
open Go.RowKit Sc
def Rq (q:Nat):Nat:=if q=0 then 1 else 0
theorem uK {n:Nat}(c:1≤n){C:Nat→ByteArray}(h:Yd (fun _=>Gm (0:Nat)) C 0 1 0 [D3 ((n+7)/8)]):SI n C (D3 ((n+7)/8)) Rq:=by
 have a:=Ln 0 (by omega);refine⟨h.k,h.r,h.l,Tz (by omega),fun p _=>?_,fun p b _=>?_,fun p b _=>?_,fun p b _=>?_,rfl⟩
 ·rw[lT]
  unfold Rq
  by_cases e:p=0
  ·rw[if_pos e,decide_eq_true e];rfl
  ·rw[if_neg e,decide_eq_false e];rfl
 ·rw[h.o p (by omega),a.2]
  unfold Rq;rw[if_neg (by omega)]
 ·rw[h.o p (by omega),a.2]
 ·rw[h.o p (by omega),a.2]
theorem rR {N n k:Nat}(f:1≤n∧n≤60∧N≤3000)(m:10≤N)(hk:1≤k∧k≤64)(i:2≤k):SW N n k [1] 1262 (Ke N n k) (E6 k) (fun _=>Gm (0:Nat)):=by
 obtain⟨g,e,h⟩:=V8 f m hk;have l:g.end_≤1262:=by
  have o:PI N n (eG N n k) (E6 k) (fun _=>Gm (0:Nat)):=qH f hk;obtain⟨g2,p,-,-,q⟩:=o.log (Rc.bare 1 0 0 1) (.small 1 _ 0 1 (.inl rfl) ⟨by show(0:Int)≤0+1;decide,by show(0:Int)+1<_;decide⟩ Rc.gW ⟨by decide,by decide⟩) (by show(1:Int)≠9;decide) (by show(0:Int)+1262≤(N:Int)*128;omega);have d:Gi N=(g2,_,_):=p;rw[e]at d
  injection d with d _
  have r:(eG N n k).log.end_=0:=rfl;rw[d];omega
 have b:Ke N n k={eG N n k with log:=g,txns:=[⟨1,1,1,false⟩],next:=2}:=by
  unfold Ke;rw[e]
 refine⟨⟨?_,⟨?_,fun a c=>?_,by decide,fun a c=>?_⟩,Gv k,?_⟩,qO f m hk,⟨fun j=>?_,by rw[Gv];exact i⟩⟩
 ·rw[b]
  exact⟨h.zl,h.zp,h.n1,h.pw,h.nf,h.hd,h.fr,h.nm,h.dk⟩
 ·rw[b];rfl
 ·rw[b]at c
  rw[List.mem_singleton.1 c];exact⟨Nh,Nh,Nh⟩
 ·rw[b]at c
  rw[List.mem_singleton.1 c]
 ·rw[b];exact l
 ·unfold Dt E6
  rw[List.getElem?_replicate]
  split<;>rfl
def rS (w:World)(e:Ending)(w':World):Prop:=
 ∃ (s:Tx.St) (q:SP) (fs:List Fr),e= .returned (Ah s q)∧Am w' s q fs∧HV 2400 24 4 [1] 3786 (D3 3) Rq (fun _=>(0,[])) s fs∧Bw w w'
theorem Wk (w:World):Cq 8 #[] w (rS w):=by
 have a:=Hq (fun W=>show Cq 30 #[.agg #[.int .i64 2400,.int .i64 24,.int .i64 4]] W _ from eS 2400 24 4 ⟨by decide,by decide,by decide⟩ ⟨by decide,by decide⟩ W);have d:=rR (N:=2400) (n:=24) (k:=4) ⟨by decide,by decide,by decide⟩ (by decide) ⟨by decide,by decide⟩ (by decide);generalize Ke 2400 24 4=S at a d;have f:=Hq (fun(q:SP) W (h:Am W S q (E6 4))=>bR S q (E6 4) _ d (by decide) 1 (by simp) ⟨by decide,by decide⟩ W h);generalize E6 4=F0 at a f;have E:=Hq (fun(s:Tx.St) (q:SP) (F:List Fr) w' G H I=>show rS w (.returned (Ah s q)) w' from⟨s,q,F,rfl,G,H,I⟩);generalize rS w=Q at E ⊢;clear d;go_enter Tryz.func8,Tryz.ntmps8;go_upto_region 1 with fail;have B:=cG w #[(),(),(),'s',(),false,(),(),(),(),"",'s',(),'s',()] 36;obtain⟨L,i⟩:=E2 B;rw[← i]at B ⊢;clear i
 go_upto_region 2 with(first
  |(go_at_call 30;refine(a.out _).mono ?_;rintro e M ⟨J,rfl,j,l⟩)
  |(go_at_call 29;refine(f.out J _ j).mono ?_;rintro e m ⟨s2,c,o,K,rfl,p,r,u,v⟩)
  |with_reducible refine sN (Ak s2 c) ?_)
 have x:=Af (Af l v) (Ac m (.cells (Ak s2 c) 36));have y:=Hq (B.out.step x);have z:=Hq (heap_alloc_new m (.cells (Ak s2 c) 36));have A:=Hq (p.below (Ac m (.cells (Ak s2 c) 36)));have C:=Hq (show HV 2400 24 4 [1] 3786 (D3 3) Rq (fun _=>(0,[])) s2 o from⟨K,r.ss,uK (by decide) u⟩);obtain⟨g,D⟩:=ex m.heap.size;obtain⟨O,b⟩:=ex (m.alloc (.cells (Ak s2 c) 36));rw[← D,← b]at z;rw[← b]at y A;rw[← b,← D];clear b D l v x j p r u B a f
 try simp only[Act.put]
 go_wp2_with(first
  |with_reducible refine lL z.out Aq ?_
  |with_reducible refine lS (Ak s2 c) y.out.An ?_)
 refine rT1 y.out.An Aq ?_;exact E.out s2 c o _ (A.out.other (t:=36) y.out.An (by decide) (by decide) (by decide) _) C.out (y.out.row 0 (Ak s2 c) _ rfl).below
def Ft (x m:Nat):ByteArray:=⟨(List.replicate m (UInt8.ofNat x)).toArray⟩
theorem fO (x m:Nat):(Ft x m).size=m:=by
 show(List.replicate m (UInt8.ofNat x)).toArray.size=m
 rw[List.size_toArray,List.length_replicate]
def Ux (n:Int):Nat:=(max 0 (min n 500)).toNat
def J8 (x m k:Nat):Array Value:=((List.range m).map fun i=>Value.int .u8 (if i<k then(x:Int)else 0)).toArray
theorem Ms (x m k j:Nat)(a:j<m):(J8 x m k)[j]? =some (.int .u8 (if j<k then(x:Int)else 0)):=by
 unfold J8;rw[List.getElem?_toArray,List.getElem?_map,List.getElem?_range a];rfl
theorem Ls (x m k:Nat):(J8 x m k).size=m:=by unfold J8;simp
theorem nE (x m k:Nat)(hk:k<m):(J8 x m k).setIfInBounds k (.int .u8 (x:Int))=J8 x m (k+1):=by
 apply Array.ext_getElem?
 intro i;rw[Array.getElem?_setIfInBounds,Ls]
 by_cases a:i<m
 ·rw[Ms x m (k+1) i a]
  by_cases e:k=i
  ·subst e;rw[if_pos rfl,if_pos a,if_pos (by omega)]
  ·rw[if_neg e,Ms x m k i a]
   by_cases b:i<k
   ·rw[if_pos b,if_pos (by omega)]
   ·rw[if_neg b,if_neg (by omega)]
 ·rw[Array.getElem?_eq_none (xs:=J8 x m (k+1)) (by rw[Ls];omega),if_neg (by omega)]
  exact Array.getElem?_eq_none (by rw[Ls];omega)
theorem fP (x m:Nat):madeCells #[Value.int .u8 0] m=J8 x m 0:=by
 apply Array.ext_getElem?
 intro i
 by_cases a:i<m
 ·rw[iA _ _ _ a,Ms _ _ _ _ a]
  show some (#[Value.int .u8 0][i%1]!)=_
  rw[Nat.mod_one];rfl
 ·rw[Array.getElem?_eq_none (by rw[size_madeCells];omega),Array.getElem?_eq_none (by rw[Ls];omega)]
theorem nF (x m:Nat)(e:m≤500)(W:World):(Instr.makeSlice 69 (.int .i64 (m:Int)) (.int .i64 (m:Int))).run Tryz.prog W= .ok (.slice (some ⟨W.heap.size,0,none⟩) m m) (W.alloc (.cells (J8 x m 0) 5)):=by
 obtain⟨i0,d,a,b,c⟩:=info_parts Tryz.elem8;have h:=run_make (P:=Tryz.prog) W 69 5 i0 (.int .u8 0) Lx d a .i64 .i64 m m (by omega) (by omega) (by rw[c];omega) (by omega);rw[b,Int.toNat_natCast,Nat.mul_one]at h;rw[← fP];exact h
theorem rT (x m:Nat)(c:x<256)(w:World):(convert 69 9 (.slice (some ⟨w.heap.size,0,none⟩) m m)).run Tryz.prog (w.alloc (.cells (J8 x m m) 5))= .ok (.string (Ft x m)) (w.alloc (.cells (J8 x m m) 5)):=by
 have h:=run_convert_bytes_back (P:=Tryz.prog) (w.alloc (.cells (J8 x m m) 5)) 69 9 5 ⟨w.heap.size,0,none⟩ m (List.replicate m (UInt8.ofNat x)) Lx iY cD (fun j b=>by
  have a:j<m:=by rwa[List.length_replicate]at b
  rw[Addr.add_mid,Nat.zero_add,World.cell?_alloc_new,Ms x m m j a,if_pos a,List.getElem_replicate,UInt8.toNat_ofNat',Nat.mod_eq_of_lt (by omega)])
 rw[List.length_replicate]at h;exact h
theorem Wl (x:Nat)(e:x<256)(a:Int)(w:World):
 Cr 9 #[.int .u8 (x:Int),a] w (.string (Ft x (Ux a))):=by
 obtain⟨m,f⟩:∃ m:Nat,max 0 (min a 500)=(m:Int):=⟨(max 0 (min a 500)).toNat,by omega⟩;have c:m≤500:=by omega
 have g:=Hq (show Ft x (Ux a)=Ft x m from by unfold Ux;rw[f];rfl);have d:=nF x m c;go_enter Tryz.func9,Tryz.ntmps9;go_wp2_with fail;clear d
 go_loopw [6] (fun i wr=>∃ k:Nat,k≤m∧i= .int .i64 k∧wr=w.alloc (.cells (J8 x m k) 5)) (fun i _=>m-(intOf i).toNat)
 case atStart=>exact⟨0,Nat.zero_le _,rfl,rfl⟩
 case round=>
  obtain⟨k,hk,rfl,rfl⟩:=hrel
  by_cases b:k<m
  ·have l:(J8 x m k)[k]? =some (.int .u8 0):=by rw[Ms x m k k b,if_neg (by omega)]
   have h:=Hq (nE x m k b);go_wp2_with fail;go_roundw
   case rel=>exact⟨k+1,by omega,by go_num,by rw[← h.out]⟩
   case measure=>simp[intOf];omega
  ·obtain rfl:m=k:=by omega
   have j:=rT x m e w;go_wp2_with fail;go_ret;exact⟨by rw[g.out];rfl,(Below.refl _ _).alloc (Nat.le_refl _) _⟩
structure Yl (w:World) (g3:Nat) (kv:List Kv) (v x:Value) (s:Tx.St) (p:SP) (fs:List Fr) (u:World):Prop where
 st:u.heap[g3]? =some (.cells (Ak s p) 36 (0,0))
 pr:Am u s p fs
 ow:D7 E7 2 43 w.heap.size u v kv
 oe:E1 w.heap.size u x (kv.map (·.r))
 be:Bw w u
theorem wW {B:Nat}{w u v:World}(a:Below B w u)(b:Below B u v):Below B w v:=
 ⟨b.os.trans a.os,b.tape.trans a.tape,b.output.trans a.output,Nat.le_trans a.size b.size,fun k hk=>(b.block k hk).trans (a.block k hk)⟩
theorem Am.text {w:World}{s:Tx.St}{p:SP}{fs:List Fr}(h:Am w s p fs){b:Nat}{cur:Array Value}{fr:Nat×Nat}(a:w.heap[b]? =some (.cells cur 9 fr))(c:∀ ad,p.A=some ad→ad.block≠b)(cs:Array Value):Am (w.setRow b cs) s p fs:=
 ⟨⟨⟨h.st.dk.secs.Wt b cs (fun _=>c),h.st.dk.small⟩,h.st.dt.row b cs,h.st.tt.Gk h.st.tx a (by decide) cs,h.st.tt.row b cs⟩,h.fn,h.ft.Gk h.fr a (by decide) cs,h.ft.row b cs⟩
theorem E1.set {B:Nat}{w:World}{v:Value}{l:List ByteArray}(h:E1 B w v l){k:Nat}(hk:k<l.length):∃ g cap cs,v= .slice (some ⟨g,0,none⟩) l.length cap∧B≤g∧w.heap[g]? =some (.cells cs 9 (0,0))∧k<cs.size∧l.length≤cap∧
 ∀ r,E1 B (w.setRow g (cs.setIfInBounds k (.string r))) v (l.set k r):=by
 rcases h with⟨-,rfl⟩|⟨g,cap,rfl,b,a,d,c⟩
 ·exact absurd hk (by simp)
 ·refine⟨g,cap,_,rfl,b,c,by rw[List.size_toArray,Uu a];omega,a,fun r=>.inr ⟨g,cap,by rw[List.length_set],b,by rw[List.length_set];exact a,d,?_⟩⟩
  rw[setRow_heap _ _ _ _ _ _ c];unfold Ut;rw[List.length_set,List.map_set,List.setIfInBounds_toArray,List.set_append_left _ _ (by rw[List.length_map];exact hk)]
section
variable {w : World} {g3 : Nat} {kv : List Kv} {v x : Value} {s : Tx.St} {p : SP} {fs : List Fr} {u : World}
theorem Yl.below {z:World}(h:Yl w g3 kv v x s p fs u)(a:Bw u z):Yl w g3 kv v x s p fs z:=
 ⟨Ag h.st a,h.pr.below a,Bn h.ow a,h.oe.below a,Af h.be a⟩
theorem Yl.put {s2:Tx.St}{b:SP}{a:List Fr}(h:Yl w g3 kv v x s p fs u)(c:w.heap.size≤g3)(d:Am u s2 b a):Yl w g3 kv v x s2 b a (u.setRow g3 (Ak s2 b)):=
 ⟨setRow_heap _ _ _ _ _ _ h.st,d.other (t:=36) h.st (by decide) (by decide) (by decide) _,Lr h.ow h.st (by decide),h.oe.other h.st (by decide) _,Fu c h.be _⟩
theorem Yl.cl {z:World}{a:List Kv}{v2 c:Value}(h:Yl w g3 kv v x s p fs u)(b:Cl w.heap.size u z)(d:∀ y∈s.Ay.sectors,y.size≠0)(e:D7 E7 2 43 w.heap.size z v2 a)(f:E1 w.heap.size z c (a.map (·.r))):Yl w g3 a v2 c s p fs z:=
 ⟨b.keep _ _ _ _ h.st (by decide) (by decide),h.pr.cl d b,e,f,wW h.be b.bl⟩
theorem Yl.set (h:Yl w g3 kv v x s p fs u)(q:∀ y∈s.Ay.sectors,y.size≠0)(t:kv.length<s.Ay.sectors.length){K:Nat}(l:K<kv.length)(r:ByteArray):∃ g cap cs,x= .slice (some ⟨g,0,none⟩) kv.length cap∧kv.length≤cap∧w.heap.size≤g∧u.heap[g]? =some (.cells cs 9 (0,0))∧K<cs.size∧
 Yl w g3 (kv.set K ⟨kv[K].pg,kv[K].sl,r⟩) v x s p fs (u.setRow g (cs.setIfInBounds K (.string r))):=by
 obtain⟨g,cap,cs,m,n,b,d,o,a⟩:=h.oe.set (k:=K) (by rw[List.length_map];exact l);have f:=h.oe.apart h.pr q (by rw[List.length_map];exact t);rw[List.length_map]at m o;subst m;have z:∀ c,p.A=some c→c.block≠g:=fun c e i=>f c e (by rw[i];rfl);have j:g3≠g:=fun e=>by
  have:=h.st;rw[e,b]at this
  injection this with this;injection this with _ this;exact absurd this (by decide)
 refine⟨g,cap,cs,rfl,o,n,b,d,(Ad _ _ _ _ j).trans h.st,h.pr.text b z _,?_,?_,Fu n h.be _⟩
 ·have B:=Lr h.ow b (by decide) (cs':=cs.setIfInBounds K (.string r))
  have i:(kv.set K ⟨kv[K].pg,kv[K].sl,r⟩).flatMap E7=kv.flatMap E7:=by
   rw[List.flatMap_def,List.flatMap_def,List.map_set]
   congr 1
   rw[show E7 ⟨kv[K].pg,kv[K].sl,r⟩=(kv.map E7)[K]'(by rw[List.length_map];exact l)from by rw[List.getElem_map];rfl];exact List.set_getElem_self _
  unfold D7;rw[i,List.length_set];exact B
 ·have C:=a r
  rw[List.map_set];exact C
end
theorem uL {i:Nat}{c:List Kv}(s:Tx.St)(p:SP)(fs:List Fr)(d:Pp i c s fs)(w:World)(h:Am w s p fs):
 Cq 13 #[Ah s p,.int .i64 1] w fun e w'=>∃ (s':Tx.St) (q:SP) (v x:Value) (L:List Kv),e= .returned (.tuple #[Ah s' q,v,x,()])∧D7 E7 2 43 w.heap.size w' v L∧E1 w.heap.size w' x (L.map (·.r))∧L.length=c.length∧(∀ y∈c,y∈L)∧Bw w w':=by
 obtain⟨top,b,u,V,f,t,a⟩:=d;obtain⟨C,g,j⟩:=a.hv;refine(Wj s p fs g j f a.cp.ch 1 (by rw[a.p0];rfl) w h).mono ?_;rintro e w' ⟨s',q,k,v,x,rfl,-,-,l,m,n⟩;exact⟨s',q,v,x,_,rfl,l,m,a.kp.len a.cp.nd,fun y o=>a.kp.uG o,n⟩
theorem iR (s:Tx.St)(p:SP)(fs:List Fr)(b:HV 2400 24 4 [1] 3786 (D3 3) Rq (fun _=>(0,[])) s fs)(w:World)(h:Am w s p fs):
 Cq 7 #[Ah s p,.int .i64 1] w fun e w'=>∃ (s':Tx.St) (q:SP) (fs':List Fr),e= .returned (.tuple #[Ah s' q,.int .i64 1,()])∧Am w' s' q fs'∧HV 2400 24 4 [1] 8834 (D1 (D3 3) 1) (Gr Rq 1 2) (Gr (fun _=>(0,[])) 1 (0,[])) s' fs'∧Bw w w':=by
 refine(iO s p fs b 1 (by simp) ⟨by decide,by decide⟩ 1 (by decide) (fun q f=>by
  obtain rfl:q=0:=by omega
  decide) (fun _=>by decide) (fun _=>by decide) w h).mono ?_
 rintro e w' ⟨s',q,fs',x,y,rfl,c,⟨⟨rfl,rfl,-,a⟩|⟨-,a⟩,-⟩,d⟩
 ·exact⟨s',q,fs',rfl,c,a,d⟩
 ·exact absurd a (by decide)
theorem uM (s:Tx.St)(p:SP)(fs:List Fr)(f:HV 2400 24 4 [1] 8834 (D1 (D3 3) 1) (Gr Rq 1 2) (Gr (fun _=>(0,[])) 1 (0,[])) s fs)(w:World)(h:Am w s p fs):
 Cq 7 #[Ah s p,.int .i64 1] w fun e w'=>∃ (s':Tx.St) (q:SP) (fs':List Fr),e= .returned (.tuple #[Ah s' q,.int .i64 2,()])∧Am w' s' q fs'∧Pp 0 [] s' fs'∧Bw w w':=by
 refine(iO s p fs f 1 (by simp) ⟨by decide,by decide⟩ 2 (by decide) (fun q j=>by
  have:q=0∨q=1:=by omega
  rcases this with rfl|rfl<;>decide) (fun _=>by decide) (fun _=>by decide) w h).mono ?_
 rintro e w' ⟨s',q,fs',x,y,rfl,g,⟨⟨rfl,rfl,-,a⟩|⟨-,a⟩,-⟩,i⟩
 ·refine⟨s',q,fs',rfl,g,⟨3,_,_,_,[1],[2],a,Hc.one (by decide) (by decide) (by decide) (by decide),Hc.one (by decide) (by decide) (by decide) (by decide),by decide,rfl,rfl,fun z=>?_,by decide,by decide,Rp.nil _ _ rfl,Nat.le_refl _⟩,i⟩
  by_cases b:z=2
  ·rw[b,Ez];decide
  ·rw[Dr _ _ b]
   by_cases c:z=1
   ·rw[c,Ez];decide
   ·rw[Dr _ _ c]
    unfold Rq
    by_cases d:z=0
    ·rw[d];decide
    ·rw[if_neg d];omega
 ·exact absurd a (by decide)
theorem Qn (a b c d:Int)(w:World):(Op.equalIn 10000 43 (.agg #[a,b]) (.agg #[c,d])).run Tryz.prog w= .ok (decide (a=c∧b=d)) w:=by
 have e:Tryz.prog.underlying 43=some (.struct (Tryz.prog.fieldsOf 43)):=by kernel_rfl
 have f:Tryz.prog.stoodInHeld 43=false:=by kernel_rfl
 rw[show(10000:Nat)=9999+1 from rfl,run_equalIn_agg w 9999 43 _ _ e f];simp only[Program.fieldsOf,Od]
 go_simp
 by_cases g:a=c<;>by_cases h:b=d<;>simp[g,h]
theorem Yl.yM {w:World}{g3:Nat}{a:List Kv}{v x:Value}{s:Tx.St}{p:SP}{fs:List Fr}{u:World}(h:Yl w g3 a v x s p fs u):∃ A8 c8 A9 c9,v= .slice A8 a.length c8∧x= .slice A9 a.length c9:=by
 obtain⟨A8,c8,c⟩:=Ej h.ow;obtain⟨A9,c9,b⟩:=Ej h.oe.own;rw[List.length_map]at b;exact⟨A8,c8,A9,c9,c,b⟩
structure wZ where
 kind:Int
 h:Int
 k:Int
 n:Int
 c:Nat
 ap:Int
 asl:Int
def rU (a:wZ):List Value:=[.int .i64 a.kind,.int .i64 a.h,.int .i64 a.k,.int .i64 a.n,.int .u8 (a.c:Int),.int .i64 a.ap,.int .i64 a.asl]
theorem bZ (a:wZ):(rU a).length=7:=rfl
theorem E1.mono {B a:Nat}{w:World}{v:Value}{l:List ByteArray}(h:E1 B w v l)(b:a≤B):E1 a w v l:=by
 rcases h with h|⟨g,cap,c,d,e⟩
 ·exact .inl h
 ·exact .inr ⟨g,cap,c,Nat.le_trans b d,e⟩
theorem Mt {α:Type}{enc:α→List Value}{k:Nat}{e:TypeId}{B:Nat}{w:World}{v:Value}{l:List α}(h:D7 enc k e B w v l)(f:0<l.length):∃ g c,v= .slice (some ⟨g,0,none⟩) l.length c∧l.length≤c∧g<w.heap.size∧Reads w (some ⟨g,0,none⟩) c l.length (l.flatMap enc):=by
 have b:=h;rcases h.2 with⟨_,i⟩|⟨g,cap,cur,rfl,_,d,a,_⟩
 ·omega
 ·exact⟨g,cap,rfl,a,Bt d,C5 b⟩
theorem iS {α:Type}{enc:α→List Value}{k:Nat}{w:World}{b c:Nat}{l:List α}(hk:∀ x,(enc x).length=k)(h:Reads w (some ⟨b,0,none⟩) c l.length (l.flatMap enc))(j:Nat)(a:j≤l.length)(q:l.length≤c):Reads w (if c=j then(some ⟨b,0,none⟩:Option Addr)else some ⟨b,j*k,none⟩) (c-j) (l.length-j) ((l.drop j).flatMap enc):=fun r=>by
 obtain⟨s,off,e,u,d,f⟩:=h (by omega)
 injection e with e
 injection e with g i
 subst g i;refine⟨b,j*k,by rw[if_neg (by omega)],by omega,d,fun t v m=>?_⟩;have n:l.flatMap enc=(l.take j).flatMap enc++(l.drop j).flatMap enc:=by rw[← List.flatMap_append,List.take_append_drop]
 have o:((l.take j).flatMap enc).length=j*k:=by rw[Ce hk,List.length_take,Nat.min_eq_left a]
 have p:=f (j*k+t) v (by rw[n,List.getElem?_append_right (by omega),o,Nat.add_sub_cancel_left];exact m)
 rwa[Nat.zero_add]at p
theorem iT {α:Type}{enc:α→List Value}{w:World}{A:Option Addr}{c:Nat}{l:List α}(h:Reads w A c l.length (l.flatMap enc))(m:Nat)(i:m≤l.length):Reads w A c m ((l.take m).flatMap enc):=fun k=>by
 obtain⟨b,off,e,n,d,f⟩:=h (by omega);refine⟨b,off,e,by omega,d,fun j v a=>f j v ?_⟩;have g:l.flatMap enc=(l.take m).flatMap enc++(l.drop m).flatMap enc:=by rw[← List.flatMap_append,List.take_append_drop]
 rw[g,List.getElem?_append_left (List.getElem?_eq_some_iff.1 a).1];exact a
theorem cA (l:List Kv):∀ u∈l.flatMap E7,u.oneCell'=true:=fun u b=>by
 obtain⟨x,-,a⟩:=List.mem_flatMap.1 b;unfold E7 at a
 simp at a
 rcases a with rfl|rfl<;>rfl
theorem Uy:∀ l:List Kv,l.flatMap wP=l.map (Value.string∘(·.r))
 |[]=>rfl
 |a::l=>by
  rw[List.flatMap_cons,List.map_cons,Uy l];rfl
theorem E1.uN {B:Nat}{w:World}{v:Value}{l:List Kv}(h:E1 B w v (l.map (·.r))):D7 wP 1 9 B w v l:=by
 have a:=h.own;unfold Jn at a;unfold D7;rw[List.length_map,List.map_map]at a;rw[Uy];exact a
theorem Om {w:World}{B n size g c:Nat}{e:TypeId}{xs:List Value}(h:w.ownsRow B e size (.slice (some ⟨g,0,none⟩) n c) n xs):g<w.heap.size:=by
 rcases h.2 with⟨a,_⟩|⟨d,cap,cur,a,_,b,_⟩
 ·cases a
 ·injection a with a
  injection a with a
  injection a with a
  rw[a];exact Bt b
theorem fQ (w:World):E1 w.heap.size (w.alloc (.cells #[] 9)) (.slice (some ⟨w.heap.size,0,none⟩) 0 0) []:=
 .inr ⟨w.heap.size,0,rfl,Nat.le_refl _,Nat.le_refl _,Nat.zero_le _,heap_alloc_new w (.cells #[] 9)⟩
theorem fR {rs:List ByteArray}{r:ByteArray}(h:1≤r.size):Eo rs rs.length r=rs++[r]:=by
 have e:Pg.putAt rs rs.length r=rs++[r]:=by
  unfold Pg.putAt;rw[show rs.length+1-rs.length=1 from by omega,List.set_append_right _ _ (Nat.le_refl _),Nat.sub_self]
  rfl
 have a:Pg.Ds (rs++[r]) (rs++[r]).length=(rs++[r]).length:=by
  rw[List.length_append,List.length_singleton];unfold Pg.Ds;rw[show((rs++[r])[rs.length]?).getD ⟨#[]⟩=r from by rw[List.getElem?_append_right (Nat.le_refl _),Nat.sub_self];rfl,if_neg (by omega)]
 unfold Eo Pg.trim;rw[e,a,List.take_length]
theorem Qo (r:ByteArray)(h:r.size≠0):∀ k,Pg.C4 (List.replicate k r)=k
 |0=>rfl
 |k+1=>by
  rw[List.replicate_succ];unfold Pg.C4;rw[if_neg h,Qo r h k]
theorem cB (r:ByteArray):∀ k,Pg.Ao (List.replicate k r)=k*r.size
 |0=>by simp[Pg.Ao]
 |k+1=>by
  rw[List.replicate_succ];unfold Pg.Ao;rw[cB r k,Nat.add_mul];omega
theorem Uz (pg:Nat)(r:ByteArray)(h:r.size≠0)(k:Nat):∀ j,j≤k→(Pn pg (List.replicate k r) j).length=j
 |0,_=>rfl
 |j+1,hj=>by
  unfold Pn;rw[if_neg (by rw[Pg.Oh (by rw[List.length_replicate];omega),List.getElem_replicate];exact h),List.length_append,Uz pg r h k j (by omega)]
  rfl
theorem Ec:(Ft 97 100).size=100:=fO 97 100
theorem nG (k:Nat)(hk:k≤4):Jf (List.replicate k (Ft 97 100))=max 0 (min (493-4*((k:Int)+1)-100*(k:Int)) 400):=by
 unfold Jf;rw[Qo _ (by rw[Ec];decide),cB,Ec,List.length_replicate];omega
def xA (i:Nat)(s:Tx.St)(fs:List Fr):Prop:=
 (i≤4∧HV 2400 24 4 [1] (8834+2524*(i:Int)) (D1 (D3 3) 1) (Gr Rq 1 2) (Gr (fun _=>(0,[])) 1 (0,List.replicate i (Ft 97 100))) s fs)∨
 (i=5∧∃ c b u V l,HV 2400 24 4 [1] c b u V s fs∧Hc 24 u V l∧l[0]? =some 1∧(Hj V l).length=5)
theorem wX {i:Nat}(hi:i<5)(s:Tx.St)(p:SP)(fs:List Fr)(l:xA i s fs)(w:World)(A:Fv w)(h:Am w s p fs):
 Cq 10 #[Ah s p,.int .i64 1,.int .i64 1,.string (Ft 97 100)] w fun e w'=>∃ (s':Tx.St) (q:SP) (fs':List Fr) (x y:Int),e= .returned (.tuple #[Ah s' q,.agg #[x,y],()])∧Am w' s' q fs'∧xA (i+1) s' fs'∧(i<4→x=1∧y=(i:Int))∧(i=4→x=2∧y=0)∧Bw w w':=by
 rcases l with⟨n,l⟩|⟨rfl,-⟩
 ·have c:Hc 24 (Gr Rq 1 2) (Gr (fun _=>(0,[])) 1 (0,List.replicate i (Ft 97 100))) [1]:=Hc.one (by decide) (by decide) (by rw[Ez]) (by rw[Ez])
  have o:¬ Rm (Gr Rq 1 2) 24:=fun h9=>absurd (h9 2 (by decide)) (by decide);have d:=nG i n;have f:=Qo (Ft 97 100) (by rw[Ec];decide) i;have t:Eo (List.replicate i (Ft 97 100)) i (Ft 97 100)=List.replicate (i+1) (Ft 97 100):=by
   have h9:=fR (rs:=List.replicate i (Ft 97 100)) (r:=Ft 97 100) (by rw[Ec];decide);rw[List.length_replicate]at h9;rw[h9,List.replicate_succ']
  have a:(Gr (fun _=>((0:Nat),([]:List ByteArray))) 1 (0,List.replicate i (Ft 97 100)) 1)=(0,List.replicate i (Ft 97 100)):=Ez _ _ _;refine(iN s p fs l [1] c 1 (by simp) ⟨by decide,by decide⟩ (by decide) 1 rfl (Ft 97 100) (by rw[Ec];decide) (by omega) (fun _=>by omega) w A h).mono ?_;rintro e w' (⟨m,B,s',q,fs',rfl,g,b,j,-,u⟩|⟨pg,s',q,fs',rfl,g,C,v,k,b,j,u⟩|⟨-,-,g,-⟩)
  ·obtain rfl:m=0:=by simp at B;omega
   simp only[List.getElem_cons_zero]at b j;rw[a]at b j;rw[d,Ec]at j;have D:i<4:=(by omega);rw[f,t,iM]at b;refine⟨s',q,fs',_,_,rfl,g,.inl ⟨by omega,?_⟩,fun _=>⟨by simp,?_⟩,fun h9=>by omega,u⟩
   ·rw[show 8834+2524*(((i+1:Nat)):Int)=8834+2524*(i:Int)+2524 from by omega]
    exact b
   ·simp only[List.getElem_cons_zero]
    rw[a,f]
  ·have z:=j 0 (by decide)
   simp only[List.getElem_cons_zero]at z;rw[a,d,Ec]at z;obtain rfl:i=4:=(by omega);obtain rfl:pg=2:=by
    rcases Nat.lt_trichotomy pg 2 with h9|h9|h9
    ·have:pg=0∨pg=1:=by omega
     rcases this with rfl|rfl
     ·exact absurd (by decide) k
     ·exact absurd (by decide) k
    ·exact h9
    ·exact absurd (v 2 h9) (by decide)
   refine⟨s',q,fs',_,_,rfl,g,.inr ⟨rfl,_,_,_,_,[1,2],b,c.more (by decide) (by decide) (by decide) _,rfl,?_⟩,fun h9=>absurd h9 (by decide),fun _=>⟨rfl,rfl⟩,u⟩;unfold Hj;rw[List.flatMap_cons,List.flatMap_cons,List.flatMap_nil,List.append_nil,List.length_append,Ez];rw[show Gg [1]=1 from rfl,Dr _ _ (show(1:Nat)≠2 by decide),Ez,a]
   show(Pn 1 (List.replicate 4 (Ft 97 100)) (List.replicate 4 (Ft 97 100)).length).length+(Pn 2 (List.replicate 1 (Ft 97 100)) 1).length=5
   rw[List.length_replicate,Uz 1 _ (by rw[Ec];decide) 4 4 (Nat.le_refl _),Uz 2 _ (by rw[Ec];decide) 1 1 (Nat.le_refl _)]
  ·exact absurd g o
 ·omega
theorem uO (s:Tx.St)(p:SP)(fs:List Fr)(a:xA 5 s fs)(w:World)(h:Am w s p fs):
 Cq 13 #[Ah s p,.int .i64 1] w fun e w'=>∃ (s':Tx.St) (q:SP) (v x:Value) (L:List Kv),e= .returned (.tuple #[Ah s' q,v,x,()])∧D7 E7 2 43 w.heap.size w' v L∧E1 w.heap.size w' x (L.map (·.r))∧L.length=5∧Bw w w':=by
 rcases a with⟨y,-⟩|⟨-,c,b,u,V,l,d,f,g,i⟩
 ·omega
 ·obtain⟨C,j,k⟩:=d
  refine(Wj s p fs j k l f.ch 1 (by rw[g];rfl) w h).mono ?_;rintro e w' ⟨s',q,m,v,x,rfl,-,-,n,o,t⟩;exact⟨s',q,v,x,_,rfl,n,o,i,t⟩
theorem fS (w:World)(hv:Fv w):Cr 6 #[] w (.bool true):=by
 have HV:=Hq (fun W (Z:Bw w W)=>hv.below Z);have E:=Hq (fun W=>show Cq 9 #[.int .u8 97,.int .i64 100] W _ from Wl 97 (by decide) 100 W);have d:Ux 100=100:=by decide
 rw[d]at E;have a1:=Hq (fun(i:Nat) (hi:i<5) s p m (hS:xA i s m) W (hv:Fv W) (h:Am W s p m)=>wX hi s p m hS W hv h);generalize Ft 97 100=tx at E a1;have HT:=Hq (fun w' (Z:Bw w w')=>show(fun(e:Ending) (w':World)=>e= .returned (.bool true)∧Bw w w') (.returned (.bool true)) w' from⟨rfl,Z⟩);unfold Cr;generalize (fun(e:Ending) (w':World)=>e= .returned (.bool true)∧Bw w w')=Q at HT ⊢;clear hv d;go_enter Tryz.func6,Tryz.ntmps6
 go_upto_region 2 with(first
  |(go_at_call 8;refine(Wk _).mono ?_;rintro e w2 ⟨s2,q2,an,rfl,a6,a7,c⟩)
  |(go_at_call 7;refine(iR s2 q2 an a7 _ a6).mono ?_;rintro e w3 ⟨F,q3,a8,rfl,aa,ad,G⟩)
  |with_reducible refine sN (Ak F q3) ?_)
 have H:=Hq (Af c (Af G (Ac w3 (.cells (Ak F q3) 36))));have I:=Hq (heap_alloc_new w3 (.cells (Ak F q3) 36));have J:=Hq (aa.below (Ac w3 (.cells (Ak F q3) 36)));have ae:=Hq (show xA 0 F a8 from .inl ⟨by decide,ad⟩);have af:w.heap.size≤w3.heap.size:=Nat.le_trans c.size G.size;obtain⟨g1,a⟩:=ex w3.heap.size;obtain⟨w4,n⟩:=ex (w3.alloc (.cells (Ak F q3) 36));rw[← a,← n]at I;rw[← n]at H J;rw[← a]at af;rw[← n,← a];clear n a c G a6 aa a7 ad
 try simp only[Act.put]
 go_wp2_with fail
 go_loopw [3,4] (fun x y wr=>∃ (i:Nat) (s:Tx.St) (q:SP) (m:List Fr),i≤5∧x= .int .i64 0∧y= .int .i64 (i:Int)∧wr.heap[g1]? =some (.cells (Ak s q) 36 (0,0))∧Am wr s q m∧xA i s m∧Bw w wr) (fun _ y _=>5-(intOf y).toNat)
 case atStart=>exact⟨0,F,q3,a8,by decide,rfl,rfl,I.out,J.out,ae.out,H.out⟩
 case round=>
  clear I J ae H;obtain⟨v0,rfl⟩:=ex wr;obtain⟨i,s,q,m,b2,rfl,rfl,hg,hp,hs,Z⟩:=hrel;have HG:=Hq hg;have HP:=Hq hp;have HS:=Hq hs;have HB:=Hq Z;clear hg hp hs Z
  by_cases ao:i<5
  ·have b3:(i:Int)<5:=by omega
   have b4:IntKind.i64.wrap ((i:Int)+1)=(i:Int)+1:=IntWalk.i64_in _ (by omega);go_upto_region 6 with fail;have z:=Ac v0 (.cells #[(),()] 43);have M:=Hq (Ag HG.out z);have ag:=Hq (HP.out.below z);have N:=Hq (Af HB.out z);have H5:=Hq (heap_alloc_new v0 (.cells #[(),()] 43));have ah:g1<v0.heap.size:=Bt HG.out;obtain⟨g5,a⟩:=ex v0.heap.size;obtain⟨v1,A⟩:=ex (v0.alloc (.cells #[(),()] 43));rw[← a,← A]at H5;rw[← A]at M ag N;rw[← a]at ah;rw[← A,← a];clear A a z HG HP HB
   try simp only[Act.put]
   have hSn:Bw v1 v1.drew:=(Below.refl _ v1).drew;refine Ie (S:=(fun u=>Bw v1 u)) 8 Kr ?_ (fun b=>?_)
   ·exact hSn
   generalize v1.drew=v4 at hSn ⊢;refine Bu (i:=0) (oi:={dst:=some 25,op:=_,type:=_,pos:=_,after:=_,guard:=_}) (v:=.agg (Ak s q)) (p:=[8]) rfl Kr Kr Kr Kr Kr Kr (fun _ _ _ h=>h) (yieldsIf_load_mid (by rfl) 36 (.tmp 1) rfl g1 0 (by rfl) (Ak s q).toList _ (fun u hu=>(by intro j v hj;rw[Nat.zero_add,Aa (Ag M.out hu)];simpa using hj)) Aq Kr Kr) (by assumption) ?_
   try simp only[Act.put,pS]
   refine nJ 1 [8] ?_;refine Cn (rs:=[2]) Kr (by simp) ?_;refine(A5.cons (o:={dst:=some 27,op:=_,type:=_,pos:=_,after:=_,guard:=_}) rfl (fun K f=>?_) A5.nil)
   go_simp
   (refine(E.out _).mono ?_);rintro e v5 ⟨rfl,O⟩;have k:=Af hSn O;clear hSn;have hSn:=k;clear k
   refine Ct f (fun b=>?_);clear f K;refine Cn (rs:=[3]) Kr (by simp) ?_;refine(A5.cons (o:={dst:=some 28,op:=_,type:=_,pos:=_,after:=_,guard:=_}) rfl (fun K f=>?_) A5.nil)
   go_simp
   (refine(a1.out i ao s q m HS.out _ (HV.out _ (Af N.out hSn)) (ag.out.below hSn)).mono ?_);rintro e v6 ⟨C,D,ai,x7,y7,rfl,aq,aj,P,R,O⟩;have k:=Af hSn O;clear hSn;have hSn:=k;clear k;have T:=Ag M.out hSn;have ar:=Ag H5.out hSn;have au:=Af N.out hSn
   refine Ct f (fun b=>?_);clear f K;refine nJ 4 [8] ?_;refine nJ 5 [8] ?_;refine Fg (i:=6) (oi:={dst:=some 30,op:=_,type:=_,pos:=_,after:=_,guard:=_}) (v:=?_) rfl Kr Kr Kr Kr (fun _ _ _ h=>h) (Or.inl ⟨by rfl,?_⟩) (fun _=>by assumption) ?_
   rotate_left
   ·intro u l;clear l;go_simp;(try with_reducible rfl)
   try simp only[Act.put,pS]
   refine Fg (i:=7) (oi:={dst:=some 31,op:=_,type:=_,pos:=_,after:=_,guard:=_}) (v:=?_) rfl Kr Kr Kr Kr (fun _ _ _ h=>h) (Or.inl ⟨by rfl,?_⟩) (fun _=>by assumption) ?_
   rotate_left
   ·intro u l;clear l;go_simp;(try with_reducible rfl)
   try simp only[Act.put,pS]
   refine Cn (rs:=[8]) Kr (by simp) ?_;refine(A5.last (o:={dst:=none,op:=_,type:=_,pos:=_,after:=_,guard:=_}) rfl Kr (fun K f=>?_) A5.nil);refine Bh (by rfl) ?_;refine sW (Ak C D) T ?_;have av:=setRow_heap _ _ _ (Ak C D) _ _ T;have U:=(Ad _ _ (Ak C D) _ (show g5≠g1 by omega)).trans ar;have aw:=aq.other (t:=36) T (by decide) (by decide) (by decide) (Ak C D);have ax:=Fu (g:=g1) af au (Ak C D);refine f.out _ _ ?_;clear f K
   try simp only[Act.put]
   refine Cn (rs:=[9]) Kr (by simp) ?_;refine(A5.last (o:={dst:=none,op:=_,type:=_,pos:=_,after:=_,guard:=_}) rfl Kr (fun K f=>?_) A5.nil);refine Bh (by rfl) ?_;refine sW #[x7,y7] U ?_;have V:=(Ad _ _ #[x7,y7] _ (show g1≠g5 by omega)).trans av;have B:=setRow_heap _ _ _ #[x7,y7] _ _ U;have X:=aw.other (t:=43) U (by decide) (by decide) (by decide) #[x7,y7];have Y:=Fu (g:=g5) (by omega) ax #[x7,y7];refine f.out _ _ ?_;clear f K
   try simp only[Act.put]
   refine Fg (i:=10) (oi:={dst:=some 3,op:=_,type:=_,pos:=_,after:=_,guard:=_}) (v:=?_) rfl Kr Kr Kr Kr (fun _ _ _ h=>h) (Or.inl ⟨by rfl,?_⟩) (fun h=>absurd h (by decide)) ?_
   rotate_left
   ·intro u l;clear l;go_simp;(try with_reducible rfl)
   try simp only[Act.put,pS]
   refine Ic Kr ?_ _
   skip
   generalize (v6.setRow g1 (Ak C D)).setRow g5 #[x7,y7]=v8 at V B X Y ⊢
   try clear b
   try simp only[Act.put]
   by_cases ay:i<4
   ·have b0:(i:Int)<4:=by omega
    have b1:((i:Int)==4)=false:=beq_eq_false_iff_ne.2 (by omega);obtain⟨rfl,rfl⟩:=P ay;have az:=fun W=>Qn 1 (i:Int) 1 (i:Int) W;rw[decide_eq_true (⟨rfl,rfl⟩:(1:Int)=1∧(i:Int)=(i:Int))]at az;clear P R
    go_wp2_with(with_reducible refine lL B Od ?_)
    go_roundw
    case rel=>exact⟨i+1,C,D,ai,by omega,rfl,by go_num,V,X,aj,Y⟩
    case measure=>simp[intOf];omega
   ·obtain rfl:i=4:=by omega
    obtain⟨rfl,rfl⟩:=R rfl;have b5:=show v8.cell? ⟨g5,0,none⟩=some (.int .i64 2)from(by rw[Aa B];rfl);have b6:=show v8.cell? ⟨g5,1,none⟩=some (.int .i64 0)from(by rw[Aa B];rfl);clear P R;go_wp2_with fail;go_roundw
    case rel=>exact⟨5,C,D,ai,by decide,rfl,by go_num,V,X,aj,Y⟩
    case measure=>simp[intOf]
  ·obtain rfl:i=5:=by omega
   go_upto_region 10 with(first
    |with_reducible refine lL HG.out Aq ?_
    |(go_at_call 13;refine(uO s q m HS.out _ HP.out).mono ?_;rintro e v2 ⟨s5,q5,v,x,L,rfl,ho,he,hL,c⟩)
    |with_reducible refine sN (Ak s5 q5) ?_)
   have ak:=Hq (Af HB.out (Af c (Ac v2 (.cells (Ak s5 q5) 36))));obtain⟨Av,cv,rfl⟩:=Ej ho;obtain⟨Ax,cx,rfl⟩:=Ej he.own;have al:(L.map (·.r)).length=5:=(by rw[List.length_map];exact hL);generalize v2.alloc (.cells (Ak s5 q5) 36)=v9 at ak ⊢;rw[hL,al];clear ho he c hL al
   try simp only[Act.put]
   go_wp2_with fail;exact HT.out _ ak.out
end Go.Proofs.YtpogpkonojhakaaGreatDoor
