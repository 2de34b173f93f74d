import Derived.Test.YtmfkhdhnbkambaaGreatDoorHw00
import Derived.Test.YtmfkhdhnbkambaaGreatDoorHw31
import Derived.Test.YtmfkhdhnbkambaaGreatDoorHw30
import Derived.Test.YtmfkhdhnbkambaaGreatDoorHw26
import Derived.Test.YtmfkhdhnbkambaaGreatDoorHw14
import Derived.Test.YtmfkhdhnbkambaaGreatDoorHw32
import Derived.Test.YtmfkhdhnbkambaaGreatDoorHw24
set_option maxRecDepth 100000
set_option maxHeartbeats 16000000
set_option linter.unusedSimpArgs false
namespace Go.Proofs.YtmfkhdhnbkambaaGreatDoor
open Go.RowKit Sc
theorem tW {u:Nat→Nat}{top pg:Nat}(a:∀ q,0<u q↔q<top)(c:Q5 u pg)(b:¬ 0<u pg):pg=top:=by
 rw[a]at b;rcases Nat.lt_trichotomy pg top with h|h|h
 ·exact absurd h b
 ·exact h
 ·have:=c top h
  rw[a]at this;omega
section
variable {i : Nat} {kv : List Kv}
def yM (R:Int→Int→Int→Tx.St→List Fr→Prop)(w:World)(e:Ending)(w':World):Prop:=
 ∃ (s':Tx.St) (q:SP) (fs':List Fr) (x y z:Int),e= .returned (.tuple #[Ah s' q,.agg #[x,y],z])∧Am w' s' q fs'∧R x y z s' fs'∧Bw w w'
theorem hU {u:Nat→Nat}{top:Nat}(a:∀ q,0<u q↔q<top):∀ q,0<J7 u top 2 q↔q<top+1:=fun q=>by
 by_cases e:q=top
 ·rw[e,E6];exact⟨fun _=>by omega,fun _=>by decide⟩
 ·rw[E7 _ _ e,a];omega
end
def Q8 (q:Nat):Nat:=if q=0 then 1 else 0
theorem tX {n:Nat}(c:1≤n){C:Nat→ByteArray}(h:Xq (fun _=>Gi (0:Nat)) C 0 1 0 [D6 ((n+7)/8)]):SI n C (D6 ((n+7)/8)) Q8:=by
 have a:=Ln 0 (by omega);refine⟨h.k,h.r,h.l,Tk (by omega),fun p _=>?_,fun p b _=>?_,fun p b _=>?_,fun p b _=>?_,rfl⟩
 ·rw[kV]
  unfold Q8
  by_cases e:p=0
  ·rw[if_pos e,decide_eq_true e];rfl
  ·rw[if_neg e,decide_eq_false e];rfl
 ·rw[h.o p (by omega),a.2]
  unfold Q8;rw[if_neg (by omega)]
 ·rw[h.o p (by omega),a.2]
 ·rw[h.o p (by omega),a.2]
theorem rF {N n k:Nat}(f:1≤n∧n≤60∧N≤3000)(m:10≤N)(hk:1≤k∧k≤64)(i:2≤k):SW N n k [1] 1072 (Kf N n k) (E5 k) (fun _=>Gi (0:Nat)):=by
 obtain⟨g,e,h⟩:=Vp f m hk;have l:g.end_≤1072:=by
  have o:PI N n (dO N n k) (E5 k) (fun _=>Gi (0:Nat)):=pR f hk;obtain⟨g2,p,-,-,q⟩:=o.log (Rc.bare 1 0 0 1) (.small 1 _ 0 1 (.inl rfl) ⟨by show(0:Int)≤0+1;decide,by show(0:Int)+1<_;decide⟩ Rc.gF ⟨by decide,by decide⟩) (by show(1:Int)≠9;decide) (by show(0:Int)+1072≤(N:Int)*128;omega);have d:Ge N=(g2,_,_):=p;rw[e]at d
  injection d with d _
  have r:(dO N n k).log.end_=0:=rfl;rw[d];omega
 have b:Kf N n k={dO N n k with log:=g,txns:=[⟨1,1,1,false⟩],next:=2}:=by
  unfold Kf;rw[e]
 refine⟨⟨?_,⟨?_,fun a c=>?_,by decide,fun a c=>?_⟩,Gp k,?_⟩,qA f m hk,⟨fun j=>?_,by rw[Gp];exact i⟩⟩
 ·rw[b]
  exact⟨h.zl,h.zp,h.n1,h.pw,h.nf,h.hd,h.fr,h.nm,h.dk⟩
 ·rw[b];rfl
 ·rw[b]at c
  rw[List.mem_singleton.1 c];exact⟨Nj,Nj,Nj⟩
 ·rw[b]at c
  rw[List.mem_singleton.1 c]
 ·rw[b];exact l
 ·unfold Dx E5
  rw[List.getElem?_replicate]
  split<;>rfl
def rG (w:World)(e:Ending)(w':World):Prop:=
 ∃ (s:Tx.St) (q:SP) (fs:List Fr),e= .returned (Ah s q)∧Am w' s q fs∧HV 2400 24 4 [1] 2706 (D6 3) Q8 (fun _=>(0,[])) s fs∧Bw w w'
theorem V4 (w:World):Cq 17 #[] w (rG w):=by
 have a:=Hq (fun W=>show Cq 7 #[.agg #[.int .i64 2400,.int .i64 24,.int .i64 4]] W _ from eA 2400 24 4 ⟨by decide,by decide,by decide⟩ ⟨by decide,by decide⟩ W);have d:=rF (N:=2400) (n:=24) (k:=4) ⟨by decide,by decide,by decide⟩ (by decide) ⟨by decide,by decide⟩ (by decide);generalize Kf 2400 24 4=S at a d;have f:=Hq (fun(q:SP) W (h:Am W S q (E5 4))=>aW S q (E5 4) _ d (by decide) 1 (by simp) ⟨by decide,by decide⟩ W h);generalize E5 4=F0 at a f;have E:=Hq (fun(s:Tx.St) (q:SP) (F:List Fr) w' G H I=>show rG w (.returned (Ah s q)) w' from⟨s,q,F,rfl,G,H,I⟩);generalize rG w=Q at E ⊢;clear d;go_enter Tryz.func17,Tryz.ntmps17;go_upto_region 1 with fail;have B:=bP w #[(),(),(),"s",(),false,(),(),(),(),"","s",(),"s",()] 36;obtain⟨L,i⟩:=E0 B;rw[← i]at B ⊢;clear i
 go_upto_region 2 with(first
  |(go_at_call 7;refine(a.out _).mono ?_;rintro e M ⟨J,rfl,j,l⟩)
  |(go_at_call 49;refine(f.out J _ j).mono ?_;rintro e m ⟨s2,c,o,K,rfl,p,r,u,v⟩)
  |with_reducible refine sN (Ak s2 c) ?_)
 have x:=Ag (Ag l v) (Ac m (.cells (Ak s2 c) 36));have y:=Hq (B.out.step x);have z:=Hq (heap_alloc_new m (.cells (Ak s2 c) 36));have A:=Hq (p.below (Ac m (.cells (Ak s2 c) 36)));have C:=Hq (show HV 2400 24 4 [1] 2706 (D6 3) Q8 (fun _=>(0,[])) s2 o from⟨K,r.ss,tX (by decide) u⟩);obtain⟨g,D⟩:=ex m.heap.size;obtain⟨O,b⟩:=ex (m.alloc (.cells (Ak s2 c) 36));rw[← D,← b]at z;rw[← b]at y A;rw[← b,← D];clear b D l v x j p r u B a f
 try simp only[Act.put]
 go_wp2_with(first
  |with_reducible refine lL z.out Ar ?_
  |with_reducible refine lS (Ak s2 c) y.out.Ao ?_)
 refine rT1 y.out.Ao Ar ?_;exact E.out s2 c o _ (A.out.other (t:=36) y.out.Ao (by decide) (by decide) (by decide) _) C.out (y.out.row 0 (Ak s2 c) _ rfl).below
def Ff (x m:Nat):ByteArray:=⟨(List.replicate m (UInt8.ofNat x)).toArray⟩
theorem eV (x m:Nat):(Ff x m).size=m:=by
 show(List.replicate m (UInt8.ofNat x)).toArray.size=m
 rw[List.size_toArray,List.length_replicate]
def P9 (n:Int):Nat:=(max 0 (min n 500)).toNat
def J8 (x m k:Nat):Array Value:=((List.range m).map fun i=>Value.int .u8 (if i<k then(x:Int)else 0)).toArray
theorem Mu (x m k j:Nat)(a:j<m):(J8 x m k)[j]? =some (.int .u8 (if j<k then(x:Int)else 0)):=by
 unfold J8;rw[List.getElem?_toArray,List.getElem?_map,List.getElem?_range a];rfl
theorem Lr (x m k:Nat):(J8 x m k).size=m:=by unfold J8;simp
theorem mL (x m k:Nat)(hk:k<m):(J8 x m k).setIfInBounds k (.int .u8 (x:Int))=J8 x m (k+1):=by
 apply Array.ext_getElem?
 intro i;rw[Array.getElem?_setIfInBounds,Lr]
 by_cases a:i<m
 ·rw[Mu x m (k+1) i a]
  by_cases e:k=i
  ·subst e;rw[if_pos rfl,if_pos a,if_pos (by omega)]
  ·rw[if_neg e,Mu x m k i a]
   by_cases b:i<k
   ·rw[if_pos b,if_pos (by omega)]
   ·rw[if_neg b,if_neg (by omega)]
 ·rw[Array.getElem?_eq_none (xs:=J8 x m (k+1)) (by rw[Lr];omega),if_neg (by omega)]
  exact Array.getElem?_eq_none (by rw[Lr];omega)
theorem eW (x m:Nat):madeCells #[Value.int .u8 0] m=J8 x m 0:=by
 apply Array.ext_getElem?
 intro i
 by_cases a:i<m
 ·rw[gM _ _ _ a,Mu _ _ _ _ a]
  show some (#[Value.int .u8 0][i%1]!)=_
  rw[Nat.mod_one];rfl
 ·rw[Array.getElem?_eq_none (by rw[size_madeCells];omega),Array.getElem?_eq_none (by rw[Lr];omega)]
theorem mM (x m:Nat)(e:m≤500)(W:World):(Instr.makeSlice 112 (.int .i64 (m:Int)) (.int .i64 (m:Int))).run Tryz.prog W= .ok (.slice (some ⟨W.heap.size,0,none⟩) m m) (W.alloc (.cells (J8 x m 0) 5)):=by
 obtain⟨i0,d,a,b,c⟩:=info_parts Tryz.elem8;have h:=run_make (P:=Tryz.prog) W 112 5 i0 (.int .u8 0) Hw d a .i64 .i64 m m (by omega) (by omega) (by rw[c];omega) (by omega);rw[b,Int.toNat_natCast,Nat.mul_one]at h;rw[← eW];exact h
theorem rH (x m:Nat)(c:x<256)(w:World):(convert 112 9 (.slice (some ⟨w.heap.size,0,none⟩) m m)).run Tryz.prog (w.alloc (.cells (J8 x m m) 5))= .ok (.string (Ff x m)) (w.alloc (.cells (J8 x m m) 5)):=by
 have h:=run_convert_bytes_back (P:=Tryz.prog) (w.alloc (.cells (J8 x m m) 5)) 112 9 5 ⟨w.heap.size,0,none⟩ m (List.replicate m (UInt8.ofNat x)) Hw mQ bM (fun j b=>by
  have a:j<m:=by rwa[List.length_replicate]at b
  rw[Addr.add_mid,Nat.zero_add,World.cell?_alloc_new,Mu x m m j a,if_pos a,List.getElem_replicate,UInt8.toNat_ofNat',Nat.mod_eq_of_lt (by omega)])
 rw[List.length_replicate]at h;exact h
theorem Qa (x:Nat)(e:x<256)(a:Int)(w:World):
 Cr 18 #[.int .u8 (x:Int),a] w (.string (Ff x (P9 a))):=by
 obtain⟨m,f⟩:∃ m:Nat,max 0 (min a 500)=(m:Int):=⟨(max 0 (min a 500)).toNat,by omega⟩;have c:m≤500:=by omega
 have g:=Hq (show Ff x (P9 a)=Ff x m from by unfold P9;rw[f];rfl);have d:=mM x m c;go_enter Tryz.func18,Tryz.ntmps18;go_wp2_with fail;clear d
 go_loopw [6] (fun i wr=>∃ k:Nat,k≤m∧i= .int .i64 k∧wr=w.alloc (.cells (J8 x m k) 5)) (fun i _=>m-(intOf i).toNat)
 case atStart=>exact⟨0,Nat.zero_le _,rfl,rfl⟩
 case round=>
  obtain⟨k,hk,rfl,rfl⟩:=hrel
  by_cases b:k<m
  ·have l:(J8 x m k)[k]? =some (.int .u8 0):=by rw[Mu x m k k b,if_neg (by omega)]
   have h:=Hq (mL x m k b);go_wp2_with fail;go_roundw
   case rel=>exact⟨k+1,by omega,by go_num,by rw[← h.out]⟩
   case measure=>simp[intOf];omega
  ·obtain rfl:m=k:=by omega
   have j:=rH x m e w;go_wp2_with fail;go_ret;exact⟨by rw[g.out];rfl,(Below.refl _ _).alloc (Nat.le_refl _) _⟩
abbrev eX (i top:Nat):Int:=5974+1634*(i:Int)+5974*((top:Int)-2)
structure mU (i top:Nat) (b:ByteArray) (u:Nat→Nat) (V:Nat→Nat×List ByteArray) (l:List Nat) (r:Nat) (s:Tx.St) (fs:List Fr):Prop where
 hv:HV 2400 24 4 [1] (eX i top) b u V s fs
 ch:Hc 24 u V l
 r0:l[0]? =some r
 tp:∀ q,0<u q↔q<top
 t2:2≤top
 t4:top≤24
structure wD (u0:Nat→Nat) (V0:Nat→Nat×List ByteArray) (l:List Nat) (u:Nat→Nat) (V:Nat→Nat×List ByteArray):Prop where
 fr:∀ x∈l,u0 x=0
 off:∀ x,x∉l→u x=u0 x∧V x=V0 x
section
variable {i top : Nat} {b : ByteArray} {u : Nat → Nat} {V : Nat → Nat × List ByteArray} {l : List Nat} {r : Nat} {u0 : Nat → Nat} {V0 : Nat → Nat × List ByteArray}
def yN (i top:Nat)(u:Nat→Nat)(V:Nat→Nat×List ByteArray)(l:List Nat)(r:Nat)(s:Tx.St)(fs:List Fr):Prop:=
 ∃ (top2:Nat) (b2:ByteArray) (u2:Nat→Nat) (V2:Nat→Nat×List ByteArray) (l2:List Nat),mU (i+1) top2 b2 u2 V2 l2 r s fs∧top2≤top+1∧(∀ x∈l,x∈l2)∧(∀ x∈l2,x∈l∨u x=0)∧∀ x,x∉l2→u2 x=u x∧V2 x=V x
theorem wD.ins {s:Tx.St}{fs:List Fr}(h:wD u0 V0 l u V)(c:yN i top u V l r s fs):∃ (top2:Nat) (b2:ByteArray) (u2:Nat→Nat) (V2:Nat→Nat×List ByteArray) (l2:List Nat),mU (i+1) top2 b2 u2 V2 l2 r s fs∧wD u0 V0 l2 u2 V2:=by
 obtain⟨top2,b2,u2,V2,l2,d,-,f,g,b⟩:=c;refine⟨top2,b2,u2,V2,l2,d,fun x a=>?_,fun x a=>?_⟩
 ·by_cases e:x∈l
  ·exact h.fr x e
  ·rcases g x a with h6|h6
   ·exact absurd h6 e
   ·rw[← (h.off x e).1];exact h6
 ·have e:x∉l:=fun h6=>a (f x h6)
  rw[(b x a).1,(b x a).2];exact h.off x e
theorem mU.same {s:Tx.St}{fs:List Fr}(h:mU i top b u V l r s fs):yN i top u V l r s fs:=
 ⟨top,b,u,V,l,⟨h.hv.more (by unfold eX;omega),h.ch,h.r0,h.tp,h.t2,h.t4⟩,by omega,fun _ h=>h,fun _ h=>.inl h,fun _ _=>⟨rfl,rfl⟩⟩
theorem rI (s:Tx.St)(p:SP)(fs:List Fr)(a:mU i top b u V l r s fs)(hi:i≤49)(rec:ByteArray)(w:World)(y:Gl w)(h:Am w s p fs):
 Cq 19 #[Ah s p,.int .i64 1,.int .i64 (r:Int),rec] w (yM (fun _ _ _ s' fs'=>yN i top u V l r s' fs') w):=by
 by_cases f:1≤rec.size∧rec.size≤400
 ·have t4:=a.t4
  have z:eX i top+1634=eX (i+1) top:=by unfold eX;omega
  have A:eX i top+7608=eX (i+1) (top+1):=by unfold eX;omega
  refine(gZ s p fs a.hv l a.ch 1 (by simp) ⟨by decide,by decide⟩ (by decide) (r:Int) (by rw[a.r0];rfl) rec f (by unfold eX;omega) (fun _=>by unfold eX;omega) w y h).mono ?_;rintro e w' (⟨m,hm,s',q,fs',rfl,c,g,-,-,j⟩|⟨pg,s',q,fs',rfl,c,k,n,o,g,-,j⟩|⟨rfl,c,-,-,j⟩)
  ·refine⟨s',q,fs',_,_,_,rfl,c,⟨top,b,u,_,l,⟨by rw[← z];exact g,a.ch.Ai _ _,a.r0,a.tp,a.t2,a.t4⟩,by omega,fun _ h=>h,fun _ h=>.inl h,fun x d=>⟨rfl,?_⟩⟩,j⟩
   exact E7 _ _ (fun e=>d (by rw[e];exact List.getElem_mem hm))
  ·obtain rfl:=tW a.tp n o
   have t:u pg=0:=(by omega);have v:Ir l∈l:=(by rw[Ub a.ch.ch.pos];exact List.getElem_mem _);refine⟨s',q,fs',_,_,_,rfl,c,⟨pg+1,_,_,_,l++[pg],⟨by rw[← A];exact g,a.ch.more (by have:=a.t2;omega) k (by omega) _,by rw[List.getElem?_append_left a.ch.ch.pos];exact a.r0,hU a.tp,by have:=a.t2;omega,by omega⟩,by omega,fun x hm=>List.mem_append.2 (.inl hm),fun x hm=>?_,fun x d=>?_⟩,j⟩
   ·rw[List.mem_append,List.mem_singleton]at hm
    rcases hm with hm|hm
    ·exact .inl hm
    ·rw[hm];exact .inr t
   ·rw[List.mem_append,List.mem_singleton,not_or]at d
    refine⟨E7 _ _ d.2,?_⟩;rw[E7 _ _ d.2,E7 _ _ (fun e=>d.1 (by rw[e];exact v))]
  ·exact⟨s,p,fs,_,_,_,rfl,c,a.same,j⟩
 ·refine(bF s p fs 1 (r:Int) rec f w h).mono ?_
  rintro e w' ⟨rfl,c,g⟩;exact⟨s,p,fs,0,0,1,rfl,c,a.same,g⟩
theorem wA (s:Tx.St)(p:SP)(fs:List Fr)(a:mU i top b u V l r s fs)(hi:i≤49)(g:top<24)(w:World)(h:Am w s p fs):
 Cq 16 #[Ah s p,.int .i64 1] w fun e w'=>∃ (s':Tx.St) (q:SP) (fs':List Fr),e= .returned (.tuple #[Ah s' q,.int .i64 (top:Int),()])∧Am w' s' q fs'∧(∃ (top2:Nat) (b2:ByteArray) (u2:Nat→Nat) (V2:Nat→Nat×List ByteArray) (l2:List Nat),mU i top2 b2 u2 V2 l2 top s' fs'∧wD u V l2 u2 V2)∧Bw w w':=by
 have c:u top=0:=by
  have:=a.tp top;omega
 refine(Xv s p fs a.hv 1 (by simp) ⟨by decide,by decide⟩ top (by omega) (fun q j=>(a.tp q).2 j) (fun _=>by omega) (fun _=>by unfold eX;omega) w h).mono ?_;rintro e w' ⟨s',q,fs',x,y,rfl,k,⟨⟨rfl,rfl,-,f⟩|⟨-,f⟩,-⟩,m⟩
 ·refine⟨s',q,fs',rfl,k,⟨top+1,_,_,_,[top],⟨f.more (by unfold eX;omega),Hc.one (by have:=a.t2;omega) g (E6 _ _ _) (by rw[E6]),rfl,hU a.tp,by have:=a.t2;omega,by omega⟩,fun x n=>?_,fun x d=>?_⟩,m⟩
  ·rw[List.mem_singleton.1 n];exact c
  ·rw[List.mem_singleton]at d
   exact⟨E7 _ _ d,E7 _ _ d⟩
 ·omega
theorem rJ (s:Tx.St)(p:SP)(fs:List Fr)(f:HV 2400 24 4 [1] 2706 (D6 3) Q8 (fun _=>(0,[])) s fs)(w:World)(h:Am w s p fs):
 Cq 16 #[Ah s p,.int .i64 1] w fun e w'=>∃ (s':Tx.St) (q:SP) (fs':List Fr),e= .returned (.tuple #[Ah s' q,.int .i64 1,()])∧Am w' s' q fs'∧(∃ (b:ByteArray) (u:Nat→Nat) (V:Nat→Nat×List ByteArray) (l:List Nat),mU 0 2 b u V l 1 s' fs')∧Bw w w':=by
 refine(Xv s p fs f 1 (by simp) ⟨by decide,by decide⟩ 1 (by decide) (fun q j=>by
  obtain rfl:q=0:=by omega
  decide) (fun _=>by decide) (fun _=>by decide) w h).mono ?_
 rintro e w' ⟨s',q,fs',x,y,rfl,g,⟨⟨rfl,rfl,-,a⟩|⟨-,a⟩,-⟩,i⟩
 ·refine⟨s',q,fs',rfl,g,⟨_,_,_,[1],a,Hc.one (by decide) (by decide) (E6 _ _ _) (by rw[E6]),rfl,fun z=>?_,by decide,by decide⟩,i⟩
  by_cases c:z=1
  ·rw[c,E6];decide
  ·rw[E7 _ _ c]
   unfold Q8
   by_cases d:z=0
   ·rw[d];decide
   ·rw[if_neg d];omega
 ·exact absurd a (by decide)
theorem tY (s:Tx.St)(p:SP)(fs:List Fr)(a:mU i top b u V l r s fs)(hi:i≤50)(B:wD u0 V0 l u V)(w:World)(h:Am w s p fs):
 Cq 25 #[Ah s p,.int .i64 1,.int .i64 (r:Int)] w (gU (fun s2 fs2 y=>y=0∧∃ (c:Int) (b2:ByteArray) (V2:Nat→Nat×List ByteArray),HV 2400 24 4 [1] c b2 u0 V2 s2 fs2∧∀ x,x∉l→V2 x=V0 x) w):=by
 have N:l.length+1≤24:=by
  rcases bG 24 l a.ch.nd (fun x v=>⟨(a.ch.mem v).1,(a.ch.mem v).2.1⟩)with h9|h9
  ·exact h9
  ·rw[h9];decide
 have t4:=a.t4;have t2:=a.t2;have D:(r:Int)=((l[0]?).getD 0:Nat):=by rw[a.r0];rfl
 obtain⟨C,O,M⟩:=a.hv;refine(mK s p fs O M l a.ch.ch 1 (r:Int) D (fun j s1 d=>∃ (b2:ByteArray) (V2:Nat→Nat×List ByteArray),HV 2400 24 4 [1] (eX i top+3268*(j:Int)) b2 (fun x=>if x∈l.take j then 0 else u x) V2 s1 d∧∀ x,x∉l→V2 x=V x) (fun s1 d n=>⟨b,V,?_,fun _ _=>rfl⟩) (fun j z s1 P d n W Q=>?_) w h).mono ?_
 ·have R:(fun x=>if x∈l.take 0 then 0 else u x)=u:=by
   funext x
   rw[List.take_zero,if_neg (by simp)]
  rw[R];exact⟨C,n.more (by omega),M⟩
 ·obtain⟨b2,V2,⟨S,E,F⟩,G⟩:=n
  have g:=a.ch.ch.at_ j z;have H:l[j]∉l.take j:=fun v=>by
   obtain⟨m,I,o⟩:=List.getElem_of_mem v;rw[List.length_take]at I;rw[List.getElem_take]at o;exact List.pairwise_iff_getElem.1 a.ch.nd m j (by omega) z (by omega) o
  refine(mB s1 P d S E (by unfold eX;omega) 1 (by simp) ⟨by decide,by decide⟩ b2 _ F l[j] g.2.1 g.1 (by
   show 0<(if l[j]∈l.take j then 0 else u l[j])
   rw[if_neg H,g.2.2];decide) W Q).mono ?_
  rintro e w' ⟨J,q,k,T,rfl,K,L,U,X⟩;refine⟨J,q,k,0,rfl,K,⟨rfl,Dw b2 l[j],fun q=>if q=l[j]then(0,[])else V2 q,⟨T,L.more (by omega),?_⟩,?_⟩,X⟩
  ·have f:(fun x=>if x∈l.take (j+1)then 0 else u x)=fun q=>if q=l[j]then 0 else(if q∈l.take j then 0 else u q):=by
    funext x
    rw[List.take_add_one,List.getElem?_eq_getElem z];simp only[Option.toList_some,List.mem_append,List.mem_singleton]
    by_cases f:x=l[j]
    ·rw[if_pos f,if_pos (.inr f)]
    ·rw[if_neg f]
     by_cases A:x∈l.take j
     ·rw[if_pos A,if_pos (.inl A)]
     ·rw[if_neg A,if_neg (by rintro(h|h);exact A h;exact f h)]
   rw[f];exact U
  ·intro x t
   show(if x=l[j]then((0,[]):Nat×List ByteArray)else V2 x)=V x
   rw[if_neg (fun e=>t (by rw[e];exact List.getElem_mem z))];exact G x t
 ·rintro e w' ⟨J,q,k,y,rfl,n,⟨rfl,b2,V2,Y,K⟩,L⟩
  refine⟨J,q,k,0,rfl,n,⟨rfl,eX i top+3268*(l.length:Int),b2,V2,?_,fun x t=>(K x t).trans (B.off x t).2⟩,L⟩
  ·have f:(fun x=>if x∈l.take l.length then 0 else u x)=u0:=by
    funext x
    rw[List.take_length]
    by_cases e:x∈l
    ·rw[if_pos e];exact(B.fr x e).symm
    ·rw[if_neg e];exact(B.off x e).1
   rw[← f];exact Y
end
theorem Ud {V V':Nat→Nat×List ByteArray}:∀ {l:List Nat},(∀ x∈l,V' x=V x)→Gg V' l=Gg V l
 |[],_=>rfl
 |a::l,h=>by
  show Q1 a (V' a).2 (V' a).2.length++Gg V' l=Q1 a (V a).2 (V a).2.length++Gg V l
  rw[h a List.mem_cons_self,Ud (fun x hx=>h x (List.mem_cons_of_mem _ hx))]
section
variable {w : World} {g3 : Nat} {kv : List Kv} {v x : Value} {s : Tx.St} {p : SP} {fs : List Fr} {u : World}
end
theorem tZ (s:Tx.St)(p:SP)(fs:List Fr)(b:HV 2400 24 4 [1] 2706 (D6 3) Q8 (fun _=>(0,[])) s fs)(w:World)(h:Am w s p fs):
 Cq 16 #[Ah s p,.int .i64 1] w fun e w'=>∃ (s':Tx.St) (q:SP) (fs':List Fr),e= .returned (.tuple #[Ah s' q,.int .i64 1,()])∧Am w' s' q fs'∧HV 2400 24 4 [1] 5974 (Dw (D6 3) 1) (J7 Q8 1 2) (J7 (fun _=>(0,[])) 1 (0,[])) s' fs'∧Bw w w':=by
 refine(Xv s p fs b 1 (by simp) ⟨by decide,by decide⟩ 1 (by decide) (fun q f=>by
  obtain rfl:q=0:=by omega
  decide) (fun _=>by decide) (fun _=>by decide) w h).mono ?_
 rintro e w' ⟨s',q,fs',x,y,rfl,c,⟨⟨rfl,rfl,-,a⟩|⟨-,a⟩,-⟩,d⟩
 ·exact⟨s',q,fs',rfl,c,a,d⟩
 ·exact absurd a (by decide)
theorem V5 (a b c d:Int)(w:World):(Op.equalIn 10000 44 (.agg #[a,b]) (.agg #[c,d])).run Tryz.prog w= .ok (decide (a=c∧b=d)) w:=by
 have e:Tryz.prog.underlying 44=some (.struct (Tryz.prog.fieldsOf 44)):=by kernel_rfl
 have f:Tryz.prog.stoodInHeld 44=false:=by kernel_rfl
 rw[show(10000:Nat)=9999+1 from rfl,run_equalIn_agg w 9999 44 _ _ e f];simp only[Program.fieldsOf,Y0]
 go_simp
 by_cases g:a=c<;>by_cases h:b=d<;>simp[g,h]
structure uT (w:World) (g:Nat) (s:Tx.St) (p:SP) (fs:List Fr) (u:World):Prop where
 st:u.heap[g]? =some (.cells (Ak s p) 36 (0,0))
 pr:Am u s p fs
 be:Bw w u
 lo:w.heap.size≤g
theorem uT.put {w:World}{g:Nat}{s:Tx.St}{p:SP}{fs:List Fr}{u z:World}{s2:Tx.St}{b:SP}{a:List Fr}(h:uT w g s p fs u)(c:Bw u z)(d:Am z s2 b a):uT w g s2 b a (z.setRow g (Ak s2 b)):=
 ⟨setRow_heap _ _ _ _ _ _ (Af h.st c),d.other (t:=36) (Af h.st c) (by decide) (by decide) (by decide) _,Gx h.lo (Ag h.be c) _,h.lo⟩
theorem I1 {w:World}{g:Nat}{s:Tx.St}{p:SP}{fs:List Fr}{u z:World}{B k n:Nat}{e:TypeId}{v:Value}{xs:List Value}(cs:Array Value)(h:uT w g s p fs u)(a:Bw u z)(b:u.ownsRow B e k v n xs)(c:e≠36):(z.setRow g cs).ownsRow B e k v n xs:=
 I0 (Bg b a) (Af h.st a) c
theorem Ue {w:World}{g:Nat}{s:Tx.St}{p:SP}{fs:List Fr}{u z:World}{k n:Nat}{e:TypeId}{v:Value}{xs:List Value}(cs:Array Value)(h:uT w g s p fs u)(a:Bw u z)(b:z.ownsRow u.heap.size e k v n xs)(c:e≠36):(z.setRow g cs).ownsRow w.heap.size e k v n xs:=
 I0 (On b h.be.size) (Af h.st a) c
section
variable {N n k : Nat} {ids : List Int} {c : Int} {b : ByteArray} {u : Nat → Nat} {V : Nat → Nat × List ByteArray}
theorem iA (s:Tx.St)(p:SP)(fs:List Fr)(d:HV N n k ids c b u V s fs)(w:World)(h:Am w s p fs):
 Cq 24 #[Ah s p] w fun e w'=>∃ (s':Tx.St) (q:SP) (fs':List Fr) (v:Value),e= .returned (.tuple #[Ah s' q,v,()])∧Am w' s' q fs'∧HV N n k ids c b u V s' fs'∧Dt Jn 1 3 w.heap.size w' v (Hb u n)∧Bw w w':=by
 obtain⟨C,f,a⟩:=d;refine(mC s p fs C f b u a w h).mono ?_;rintro e w' ⟨s',q,fs',v,rfl,g,i,j,l⟩;exact⟨s',q,fs',v,rfl,g,⟨C,i,a⟩,j,l⟩
theorem iB (s:Tx.St)(p:SP)(fs:List Fr)(o:HV N n k ids c b u V s fs){l:List Nat}(f:Hc n u V l)(r:Nat)(t:l[0]? =some r)(w:World)(h:Am w s p fs):
 Cq 22 #[Ah s p,.int .i64 (r:Int)] w fun e w'=>∃ (s':Tx.St) (q:SP) (fs':List Fr) (v:Value) (A:Option Addr) (m:Nat),e= .returned (.tuple #[Ah s' q,v,.slice A (Gg V l).length m,()])∧Am w' s' q fs'∧HV N n k ids c b u V s' fs'∧Dt Jr 2 44 w.heap.size w' v (Gg V l)∧(Gg V l).length≤7380∧Bw w w':=by
 obtain⟨C,i,g⟩:=o;have j:=i.pi.n1.2.1;have hlen:l.length≤60:=by have:=f.ch.len;omega
 have y:=Np V l (fun x d=>by
  have a:=f.mem d;have:=(Cj (C x)).fine.len
  rwa[g.rp x a.1 a.2.1]at this)
 refine(V3 s p fs i g l f.ch (r:Int) (by rw[t];rfl) w h).mono ?_;rintro e w' ⟨s',q,fs',v,x,rfl,z,B,D,E,F⟩;obtain⟨A,m,d⟩:=E1 E.own;rw[List.length_map]at d;subst d;exact⟨s',q,fs',v,A,m,rfl,z,⟨C,B,g⟩,D,by omega,F⟩
end
def xX (i:Nat)(s:Tx.St)(fs:List Fr):Prop:=∃ (top:Nat) (b:ByteArray) (u:Nat→Nat) (V:Nat→Nat×List ByteArray) (l:List Nat),mU i top b u V l 1 s fs∧top≤i+2
def xS (i:Nat)(u0:Nat→Nat)(V0:Nat→Nat×List ByteArray)(P:Nat)(s:Tx.St)(fs:List Fr):Prop:=∃ (top:Nat) (b:ByteArray) (u:Nat→Nat) (V:Nat→Nat×List ByteArray) (l:List Nat),mU i top b u V l P s fs∧wD u0 V0 l u V
def xY (u0:Nat→Nat)(V0:Nat→Nat×List ByteArray)(lq:List Nat)(s:Tx.St)(fs:List Fr):Prop:=∃ (c:Int) (b:ByteArray) (V:Nat→Nat×List ByteArray),HV 2400 24 4 [1] c b u0 V s fs∧∀ x∈lq,V x=V0 x
theorem uA {i:Nat}(s:Tx.St)(p:SP)(fs:List Fr)(c:xX i s fs)(hi:i≤9)(rec:ByteArray)(w:World)(d:Gl w)(h:Am w s p fs):
 Cq 19 #[Ah s p,.int .i64 1,.int .i64 1,rec] w (yM (fun _ _ _ s' fs'=>xX (i+1) s' fs') w):=by
 obtain⟨top,b,u,V,l,f,t⟩:=c;refine(rI s p fs f (by omega) rec w d h).mono ?_;rintro e w' ⟨s',q,fs',x,y,z,rfl,g,⟨a,j,k,m,n,o,v,-⟩,r⟩;exact⟨s',q,fs',x,y,z,rfl,g,⟨a,j,k,m,n,o,by omega⟩,r⟩
theorem uB {i:Nat}{a:Nat→Nat}{c:Nat→Nat×List ByteArray}{P:Nat}(s:Tx.St)(p:SP)(fs:List Fr)(d:xS i a c P s fs)(hi:i≤49)(rec:ByteArray)(w:World)(f:Gl w)(h:Am w s p fs):
 Cq 19 #[Ah s p,.int .i64 1,.int .i64 (P:Int),rec] w (yM (fun _ _ _ s' fs'=>xS (i+1) a c P s' fs') w):=by
 obtain⟨top,b,u,V,l,g,j⟩:=d;refine(rI s p fs g hi rec w f h).mono ?_;rintro e w' ⟨s',q,fs',x,y,z,rfl,k,m,n⟩;exact⟨s',q,fs',x,y,z,rfl,k,j.ins m,n⟩
theorem rK {i:Nat}{a:Nat→Nat}{d:Nat→Nat×List ByteArray}{P:Nat}{g:List Nat}(k:Hc 24 a d g)(s:Tx.St)(p:SP)(fs:List Fr)(m:xS i a d P s fs)(hi:i≤50)(w:World)(h:Am w s p fs):
 Cq 25 #[Ah s p,.int .i64 1,.int .i64 (P:Int)] w (gU (fun s2 fs2 y=>y=0∧xY a d g s2 fs2) w):=by
 obtain⟨top,b,u,V,l,n,j⟩:=m;refine(tY s p fs n hi j w h).mono ?_;rintro e w' ⟨o,q,f,y,rfl,r,⟨rfl,c,t,v,z,A⟩,B⟩;refine⟨o,q,f,0,rfl,r,⟨rfl,c,t,v,z,fun x C=>A x fun D=>?_⟩,B⟩;have E:=(k.mem C).2.2;have F:=j.fr x D;omega
theorem rL {a:Nat→Nat}{d:Nat→Nat×List ByteArray}{f:List Nat}(s:Tx.St)(p:SP)(fs:List Fr)(g:xY a d f s fs)(w:World)(h:Am w s p fs):
 Cq 24 #[Ah s p] w fun e w'=>∃ (s':Tx.St) (q:SP) (fs':List Fr) (v:Value),e= .returned (.tuple #[Ah s' q,v,()])∧Am w' s' q fs'∧xY a d f s' fs'∧Dt Jn 1 3 w.heap.size w' v (Hb a 24)∧Bw w w':=by
 obtain⟨c,b,V,i,j⟩:=g;refine(iA s p fs i w h).mono ?_;rintro e w' ⟨s',q,fs',v,rfl,k,l,m,n⟩;exact⟨s',q,fs',v,rfl,k,⟨c,b,V,l,j⟩,m,n⟩
theorem rM {f:Nat→Nat}{d:Nat→Nat×List ByteArray}{a:List Nat}(j:Hc 24 f d a)(k:a[0]? =some 1)(s:Tx.St)(p:SP)(fs:List Fr)(l:xY f d a s fs)(w:World)(h:Am w s p fs):
 Cq 22 #[Ah s p,.int .i64 1] w fun e w'=>∃ (s':Tx.St) (q:SP) (v:Value) (A:Option Addr) (m:Nat),e= .returned (.tuple #[Ah s' q,v,.slice A (Gg d a).length m,()])∧Dt Jr 2 44 w.heap.size w' v (Gg d a)∧Bw w w':=by
 obtain⟨c,b,V,n,g⟩:=l;refine(iB s p fs n (j.off (fun _ _=>rfl) (fun x o=>by rw[g x o])) 1 k w h).mono ?_;rintro e w' ⟨s',q,r,v,A,m,rfl,-,-,i,-,t⟩;rw[Ud g]at i ⊢;exact⟨s',q,v,A,m,rfl,i,t⟩
theorem mN (L:List Kv)(l m:Option Addr)(n c2:Nat)(H:L.length≤7380)(w:World)(o:Reads w l n L.length (L.flatMap Jr))(p:Reads w m c2 L.length (L.flatMap Jr)):
 Cr 26 #[.slice l L.length n,.slice m L.length c2] w (.bool true):=by
 have H1:=Hq (fun W (a:Bw w W)=>o.below a);have q:=Hq (fun W (a:Bw w W)=>p.below a);have r:=Hq (fun w' (a:Bw w w')=>show(fun(e:Ending) (w':World)=>e= .returned (.bool true)∧Bw w w') (.returned (.bool true)) w' from⟨rfl,a⟩);unfold Cr;generalize (fun(e:Ending) (w':World)=>e= .returned (.bool true)∧Bw w w')=Q at r ⊢;clear o p;go_enter Tryz.func26,Tryz.ntmps26;go_wp2_with fail
 go_loopw [5] (fun x wr=>∃ i:Nat,i≤L.length∧x= .int .i64 (i:Int)∧Bw w wr) (fun x _=>L.length-(intOf x).toNat)
 case atStart=>exact⟨0,Nat.zero_le _,rfl,Below.refl _ _⟩
 case round=>
  obtain⟨v0,rfl⟩:=ex wr;obtain⟨i,I,rfl,a⟩:=hrel;have g:=Hq a;clear a
  by_cases d:i<L.length
  ·have h:(i:Int)<(L.length:Int):=by omega
   have v:(0:Int)≤(i:Int):=(by omega);have y:IntKind.i64.wrap ((i:Int)+1)=(i:Int)+1:=IntWalk.i64_in _ (by omega);obtain⟨s,o1,A,-,j,b⟩:=Bz bI (H1.out v0 g.out) d;obtain⟨t,u,B,-,k,c⟩:=Bz bI (q.out v0 g.out) d;subst A B;have C:v0.cell? ⟨s,o1+i*2,none⟩=some (.int .i64 (L[i].pg:Int)):=(by have:=b 0 _ rfl;simpa using this);have D:v0.cell? ⟨s,o1+i*2+1,none⟩=some (.int .i64 (L[i].sl:Int)):=b 1 _ rfl;have E:v0.cell? ⟨t,u+i*2,none⟩=some (.int .i64 (L[i].pg:Int)):=(by have:=c 0 _ rfl;simpa using this);have F:v0.cell? ⟨t,u+i*2+1,none⟩=some (.int .i64 (L[i].sl:Int)):=c 1 _ rfl;have f:=fun W=>V5 (L[i].pg:Int) (L[i].sl:Int) (L[i].pg:Int) (L[i].sl:Int) W;rw[decide_eq_true (⟨rfl,rfl⟩:(L[i].pg:Int)=(L[i].pg:Int)∧(L[i].sl:Int)=(L[i].sl:Int))]at f;generalize L[i]=z at C D E F f;clear b c j k H1 q;go_upto_region 4 with fail
   go_quiet (fail)
   go_wp2_with fail;go_roundw
   case rel=>exact⟨i+1,by omega,by go_num,Ag g.out (Ej _ _)⟩
   case measure=>simp[intOf];omega
  ·obtain rfl:i=L.length:=by omega
   have h:¬ (L.length:Int)<(L.length:Int):=(by omega);have G:((L.length:Int)==(L.length:Int))=true:=beq_self_eq_true _;go_wp2_with fail;exact r.out _ g.out
theorem eY {rs:List ByteArray}{r:ByteArray}(h:1≤r.size):Kg rs rs.length r=rs++[r]:=by
 have e:Pg.putAt rs rs.length r=rs++[r]:=by
  unfold Pg.putAt;rw[show rs.length+1-rs.length=1 from by omega,List.set_append_right _ _ (Nat.le_refl _),Nat.sub_self]
  rfl
 have a:Pg.Dv (rs++[r]) (rs++[r]).length=(rs++[r]).length:=by
  rw[List.length_append,List.length_singleton];unfold Pg.Dv;rw[show((rs++[r])[rs.length]?).getD ⟨#[]⟩=r from by rw[List.getElem?_append_right (Nat.le_refl _),Nat.sub_self];rfl,if_neg (by omega)]
 unfold Kg Pg.trim;rw[e,a,List.take_length]
theorem Qb (r:ByteArray)(h:r.size≠0):∀ k,Pg.Db (List.replicate k r)=k
 |0=>rfl
 |k+1=>by
  rw[List.replicate_succ];unfold Pg.Db;rw[if_neg h,Qb r h k]
theorem bL (r:ByteArray):∀ k,Pg.An (List.replicate k r)=k*r.size
 |0=>by simp[Pg.An]
 |k+1=>by
  rw[List.replicate_succ];unfold Pg.An;rw[bL r k,Nat.add_mul];omega
theorem Uf (pg:Nat)(r:ByteArray)(h:r.size≠0)(k:Nat):∀ j,j≤k→(Q1 pg (List.replicate k r) j).length=j
 |0,_=>rfl
 |j+1,hj=>by
  unfold Q1;rw[if_neg (by rw[Pg.Sy (by rw[List.length_replicate];omega),List.getElem_replicate];exact h),List.length_append,Uf pg r h k j (by omega)]
  rfl
theorem Ec:(Ff 97 100).size=100:=eV 97 100
theorem mO (k:Nat)(hk:k≤4):Je (List.replicate k (Ff 97 100))=max 0 (min (493-4*((k:Int)+1)-100*(k:Int)) 400):=by
 unfold Je;rw[Qb _ (by rw[Ec];decide),bL,Ec,List.length_replicate];omega
def wE (i:Nat)(s:Tx.St)(fs:List Fr):Prop:=
 (i≤4∧HV 2400 24 4 [1] (5974+1634*(i:Int)) (Dw (D6 3) 1) (J7 Q8 1 2) (J7 (fun _=>(0,[])) 1 (0,List.replicate i (Ff 97 100))) s fs)∨
 (i=5∧∃ c b u V l,HV 2400 24 4 [1] c b u V s fs∧Hc 24 u V l∧l[0]? =some 1∧(Gg V l).length=5)
theorem wB {i:Nat}(hi:i<5)(s:Tx.St)(p:SP)(fs:List Fr)(l:wE i s fs)(w:World)(A:Gl w)(h:Am w s p fs):
 Cq 19 #[Ah s p,.int .i64 1,.int .i64 1,.string (Ff 97 100)] w fun e w'=>∃ (s':Tx.St) (q:SP) (fs':List Fr) (x y:Int),e= .returned (.tuple #[Ah s' q,.agg #[x,y],()])∧Am w' s' q fs'∧wE (i+1) s' fs'∧(i<4→x=1∧y=(i:Int))∧(i=4→x=2∧y=0)∧Bw w w':=by
 rcases l with⟨n,l⟩|⟨rfl,-⟩
 ·have c:Hc 24 (J7 Q8 1 2) (J7 (fun _=>(0,[])) 1 (0,List.replicate i (Ff 97 100))) [1]:=Hc.one (by decide) (by decide) (by rw[E6]) (by rw[E6])
  have o:¬ Q5 (J7 Q8 1 2) 24:=fun h9=>absurd (h9 2 (by decide)) (by decide);have d:=mO i n;have f:=Qb (Ff 97 100) (by rw[Ec];decide) i;have t:Kg (List.replicate i (Ff 97 100)) i (Ff 97 100)=List.replicate (i+1) (Ff 97 100):=by
   have h9:=eY (rs:=List.replicate i (Ff 97 100)) (r:=Ff 97 100) (by rw[Ec];decide);rw[List.length_replicate]at h9;rw[h9,List.replicate_succ']
  have a:(J7 (fun _=>((0:Nat),([]:List ByteArray))) 1 (0,List.replicate i (Ff 97 100)) 1)=(0,List.replicate i (Ff 97 100)):=E6 _ _ _;refine(gZ s p fs l [1] c 1 (by simp) ⟨by decide,by decide⟩ (by decide) 1 rfl (Ff 97 100) (by rw[Ec];decide) (by omega) (fun _=>by omega) w A h).mono ?_;rintro e w' (⟨m,B,s',q,fs',rfl,g,b,j,-,u⟩|⟨pg,s',q,fs',rfl,g,C,v,k,b,j,u⟩|⟨-,-,g,-⟩)
  ·obtain rfl:m=0:=by simp at B;omega
   simp only[List.getElem_cons_zero]at b j;rw[a]at b j;rw[d,Ec]at j;have D:i<4:=(by omega);rw[f,t,gY]at b;refine⟨s',q,fs',_,_,rfl,g,.inl ⟨by omega,?_⟩,fun _=>⟨by simp,?_⟩,fun h9=>by omega,u⟩
   ·rw[show 5974+1634*(((i+1:Nat)):Int)=5974+1634*(i:Int)+1634 from by omega]
    exact b
   ·simp only[List.getElem_cons_zero]
    rw[a,f]
  ·have z:=j 0 (by decide)
   simp only[List.getElem_cons_zero]at z;rw[a,d,Ec]at z;obtain rfl:i=4:=(by omega);obtain rfl:pg=2:=by
    rcases Nat.lt_trichotomy pg 2 with h9|h9|h9
    ·have:pg=0∨pg=1:=by omega
     rcases this with rfl|rfl
     ·exact absurd (by decide) k
     ·exact absurd (by decide) k
    ·exact h9
    ·exact absurd (v 2 h9) (by decide)
   refine⟨s',q,fs',_,_,rfl,g,.inr ⟨rfl,_,_,_,_,[1,2],b,c.more (by decide) (by decide) (by decide) _,rfl,?_⟩,fun h9=>absurd h9 (by decide),fun _=>⟨rfl,rfl⟩,u⟩;unfold Gg;rw[List.flatMap_cons,List.flatMap_cons,List.flatMap_nil,List.append_nil,List.length_append,E6];rw[show Ir [1]=1 from rfl,E7 _ _ (show(1:Nat)≠2 by decide),E6,a]
   show(Q1 1 (List.replicate 4 (Ff 97 100)) (List.replicate 4 (Ff 97 100)).length).length+(Q1 2 (List.replicate 1 (Ff 97 100)) 1).length=5
   rw[List.length_replicate,Uf 1 _ (by rw[Ec];decide) 4 4 (Nat.le_refl _),Uf 2 _ (by rw[Ec];decide) 1 1 (Nat.le_refl _)]
  ·exact absurd g o
 ·omega
theorem uC (s:Tx.St)(p:SP)(fs:List Fr)(a:wE 5 s fs)(w:World)(h:Am w s p fs):
 Cq 22 #[Ah s p,.int .i64 1] w fun e w'=>∃ (s':Tx.St) (q:SP) (v x:Value) (L:List Kv),e= .returned (.tuple #[Ah s' q,v,x,()])∧Dt Jr 2 44 w.heap.size w' v L∧Io w.heap.size w' x (L.map (·.r))∧L.length=5∧Bw w w':=by
 rcases a with⟨y,-⟩|⟨-,c,b,u,V,l,d,f,g,i⟩
 ·omega
 ·obtain⟨C,j,k⟩:=d
  refine(V3 s p fs j k l f.ch 1 (by rw[g];rfl) w h).mono ?_;rintro e w' ⟨s',q,m,v,x,rfl,-,-,n,o,t⟩;exact⟨s',q,v,x,_,rfl,n,o,i,t⟩
theorem eZ (w:World)(hv:Gl w):Cr 15 #[] w (.bool true):=by
 have HV:=Hq (fun W (Z:Bw w W)=>hv.below Z);have E:=Hq (fun W=>show Cq 18 #[.int .u8 97,.int .i64 100] W _ from Qa 97 (by decide) 100 W);have d:P9 100=100:=by decide
 rw[d]at E;have a1:=Hq (fun(i:Nat) (hi:i<5) s p m (hS:wE i s m) W (hv:Gl W) (h:Am W s p m)=>wB hi s p m hS W hv h);generalize Ff 97 100=tx at E a1;have HT:=Hq (fun w' (Z:Bw w w')=>show(fun(e:Ending) (w':World)=>e= .returned (.bool true)∧Bw w w') (.returned (.bool true)) w' from⟨rfl,Z⟩);unfold Cr;generalize (fun(e:Ending) (w':World)=>e= .returned (.bool true)∧Bw w w')=Q at HT ⊢;clear hv d;go_enter Tryz.func15,Tryz.ntmps15
 go_upto_region 2 with(first
  |(go_at_call 17;refine(V4 _).mono ?_;rintro e w2 ⟨s2,q2,an,rfl,a6,a7,c⟩)
  |(go_at_call 16;refine(tZ s2 q2 an a7 _ a6).mono ?_;rintro e w3 ⟨F,q3,a8,rfl,aa,ad,G⟩)
  |with_reducible refine sN (Ak F q3) ?_)
 have H:=Hq (Ag c (Ag G (Ac w3 (.cells (Ak F q3) 36))));have I:=Hq (heap_alloc_new w3 (.cells (Ak F q3) 36));have J:=Hq (aa.below (Ac w3 (.cells (Ak F q3) 36)));have ae:=Hq (show wE 0 F a8 from .inl ⟨by decide,ad⟩);have af:w.heap.size≤w3.heap.size:=Nat.le_trans c.size G.size;obtain⟨g1,a⟩:=ex w3.heap.size;obtain⟨w4,n⟩:=ex (w3.alloc (.cells (Ak F q3) 36));rw[← a,← n]at I;rw[← n]at H J;rw[← a]at af;rw[← n,← a];clear n a c G a6 aa a7 ad
 try simp only[Act.put]
 go_wp2_with fail
 go_loopw [3,4] (fun x y wr=>∃ (i:Nat) (s:Tx.St) (q:SP) (m:List Fr),i≤5∧x= .int .i64 0∧y= .int .i64 (i:Int)∧wr.heap[g1]? =some (.cells (Ak s q) 36 (0,0))∧Am wr s q m∧wE i s m∧Bw w wr) (fun _ y _=>5-(intOf y).toNat)
 case atStart=>exact⟨0,F,q3,a8,by decide,rfl,rfl,I.out,J.out,ae.out,H.out⟩
 case round=>
  clear I J ae H;obtain⟨v0,rfl⟩:=ex wr;obtain⟨i,s,q,m,b2,rfl,rfl,hg,hp,hs,Z⟩:=hrel;have HG:=Hq hg;have HP:=Hq hp;have HS:=Hq hs;have HB:=Hq Z;clear hg hp hs Z
  by_cases ao:i<5
  ·have b3:(i:Int)<5:=by omega
   have b4:IntKind.i64.wrap ((i:Int)+1)=(i:Int)+1:=IntWalk.i64_in _ (by omega);go_upto_region 6 with fail;have z:=Ac v0 (.cells #[(),()] 44);have M:=Hq (Af HG.out z);have ag:=Hq (HP.out.below z);have N:=Hq (Ag HB.out z);have H5:=Hq (heap_alloc_new v0 (.cells #[(),()] 44));have ah:g1<v0.heap.size:=Bt HG.out;obtain⟨g5,a⟩:=ex v0.heap.size;obtain⟨v1,A⟩:=ex (v0.alloc (.cells #[(),()] 44));rw[← a,← A]at H5;rw[← A]at M ag N;rw[← a]at ah;rw[← A,← a];clear A a z HG HP HB
   try simp only[Act.put]
   have hSn:Bw v1 v1.drew:=(Below.refl _ v1).drew;refine Fu (S:=(fun u=>Bw v1 u)) 8 Kr ?_ (fun b=>?_)
   ·exact hSn
   generalize v1.drew=v4 at hSn ⊢;refine Aw (i:=0) (oi:={dst:=some 25,op:=_,type:=_,pos:=_,after:=_,guard:=_}) (v:=.agg (Ak s q)) (p:=[8]) rfl Kr Kr Kr Kr Kr Kr (fun _ _ _ h=>h) (yieldsIf_load_mid (by rfl) 36 (.tmp 1) rfl g1 0 (by rfl) (Ak s q).toList _ (fun u hu=>(by intro j v hj;rw[Nat.zero_add,Aa (Af M.out hu)];simpa using hj)) Ar Kr Kr) (by assumption) ?_
   try simp only[Act.put,pS]
   refine mR 1 [8] ?_;refine Bo (rs:=[2]) Kr (by simp) ?_;refine(Au.cons (o:={dst:=some 27,op:=_,type:=_,pos:=_,after:=_,guard:=_}) rfl (fun K f=>?_) Au.nil)
   go_simp
   (refine(E.out _).mono ?_);rintro e v5 ⟨rfl,O⟩;have k:=Ag hSn O;clear hSn;have hSn:=k;clear k
   refine Cw f (fun b=>?_);clear f K;refine Bo (rs:=[3]) Kr (by simp) ?_;refine(Au.cons (o:={dst:=some 28,op:=_,type:=_,pos:=_,after:=_,guard:=_}) rfl (fun K f=>?_) Au.nil)
   go_simp
   (refine(a1.out i ao s q m HS.out _ (HV.out _ (Ag N.out hSn)) (ag.out.below hSn)).mono ?_);rintro e v6 ⟨C,D,ai,x7,y7,rfl,aq,aj,P,R,O⟩;have k:=Ag hSn O;clear hSn;have hSn:=k;clear k;have T:=Af M.out hSn;have ar:=Af H5.out hSn;have au:=Ag N.out hSn
   refine Cw f (fun b=>?_);clear f K;refine mR 4 [8] ?_;refine mR 5 [8] ?_;refine Dn (i:=6) (oi:={dst:=some 30,op:=_,type:=_,pos:=_,after:=_,guard:=_}) (v:=?_) rfl Kr Kr Kr Kr (fun _ _ _ h=>h) (Or.inl ⟨by rfl,?_⟩) (fun _=>by assumption) ?_
   rotate_left
   ·intro u l;clear l;go_simp;(try with_reducible rfl)
   try simp only[Act.put,pS]
   refine Dn (i:=7) (oi:={dst:=some 31,op:=_,type:=_,pos:=_,after:=_,guard:=_}) (v:=?_) rfl Kr Kr Kr Kr (fun _ _ _ h=>h) (Or.inl ⟨by rfl,?_⟩) (fun _=>by assumption) ?_
   rotate_left
   ·intro u l;clear l;go_simp;(try with_reducible rfl)
   try simp only[Act.put,pS]
   refine Bo (rs:=[8]) Kr (by simp) ?_;refine(Au.last (o:={dst:=none,op:=_,type:=_,pos:=_,after:=_,guard:=_}) rfl Kr (fun K f=>?_) Au.nil);refine Cc (by rfl) ?_;refine sW (Ak C D) T ?_;have av:=setRow_heap _ _ _ (Ak C D) _ _ T;have U:=(Ae _ _ (Ak C D) _ (show g5≠g1 by omega)).trans ar;have aw:=aq.other (t:=36) T (by decide) (by decide) (by decide) (Ak C D);have ax:=Gx (g:=g1) af au (Ak C D);refine f.out _ _ ?_;clear f K
   try simp only[Act.put]
   refine Bo (rs:=[9]) Kr (by simp) ?_;refine(Au.last (o:={dst:=none,op:=_,type:=_,pos:=_,after:=_,guard:=_}) rfl Kr (fun K f=>?_) Au.nil);refine Cc (by rfl) ?_;refine sW #[x7,y7] U ?_;have V:=(Ae _ _ #[x7,y7] _ (show g1≠g5 by omega)).trans av;have B:=setRow_heap _ _ _ #[x7,y7] _ _ U;have X:=aw.other (t:=44) U (by decide) (by decide) (by decide) #[x7,y7];have Y:=Gx (g:=g5) (by omega) ax #[x7,y7];refine f.out _ _ ?_;clear f K
   try simp only[Act.put]
   refine Dn (i:=10) (oi:={dst:=some 3,op:=_,type:=_,pos:=_,after:=_,guard:=_}) (v:=?_) rfl Kr Kr Kr Kr (fun _ _ _ h=>h) (Or.inl ⟨by rfl,?_⟩) (fun h=>absurd h (by decide)) ?_
   rotate_left
   ·intro u l;clear l;go_simp;(try with_reducible rfl)
   try simp only[Act.put,pS]
   refine Ft Kr ?_ _
   skip
   generalize (v6.setRow g1 (Ak C D)).setRow g5 #[x7,y7]=v8 at V B X Y ⊢
   try clear b
   try simp only[Act.put]
   by_cases ay:i<4
   ·have b0:(i:Int)<4:=by omega
    have b1:((i:Int)==4)=false:=beq_eq_false_iff_ne.2 (by omega);obtain⟨rfl,rfl⟩:=P ay;have az:=fun W=>V5 1 (i:Int) 1 (i:Int) W;rw[decide_eq_true (⟨rfl,rfl⟩:(1:Int)=1∧(i:Int)=(i:Int))]at az;clear P R
    go_wp2_with(with_reducible refine lL B Y0 ?_)
    go_roundw
    case rel=>exact⟨i+1,C,D,ai,by omega,rfl,by go_num,V,X,aj,Y⟩
    case measure=>simp[intOf];omega
   ·obtain rfl:i=4:=by omega
    obtain⟨rfl,rfl⟩:=R rfl;have b5:=show v8.cell? ⟨g5,0,none⟩=some (.int .i64 2)from(by rw[Aa B];rfl);have b6:=show v8.cell? ⟨g5,1,none⟩=some (.int .i64 0)from(by rw[Aa B];rfl);clear P R;go_wp2_with fail;go_roundw
    case rel=>exact⟨5,C,D,ai,by decide,rfl,by go_num,V,X,aj,Y⟩
    case measure=>simp[intOf]
  ·obtain rfl:i=5:=by omega
   go_upto_region 10 with(first
    |with_reducible refine lL HG.out Ar ?_
    |(go_at_call 22;refine(uC s q m HS.out _ HP.out).mono ?_;rintro e v2 ⟨s5,q5,v,x,L,rfl,ho,he,hL,c⟩)
    |with_reducible refine sN (Ak s5 q5) ?_)
   have ak:=Hq (Ag HB.out (Ag c (Ac v2 (.cells (Ak s5 q5) 36))));obtain⟨Av,cv,rfl⟩:=E1 ho;obtain⟨Ax,cx,rfl⟩:=E1 he.own;have al:(L.map (·.r)).length=5:=(by rw[List.length_map];exact hL);generalize v2.alloc (.cells (Ak s5 q5) 36)=v9 at ak ⊢;rw[hL,al];clear ho he c hL al
   try simp only[Act.put]
   go_wp2_with fail;exact HT.out _ ak.out
end Go.Proofs.YtmfkhdhnbkambaaGreatDoor
