import Derived.Test.YtpogpkonojhakaaGreatDoorHk00
import Derived.Test.YtpogpkonojhakaaGreatDoorHk01
import Derived.Test.YtpogpkonojhakaaGreatDoorHk02
import Derived.Test.YtpogpkonojhakaaGreatDoorHk04
import Derived.Test.YtpogpkonojhakaaGreatDoorHk06
import Derived.Test.YtpogpkonojhakaaGreatDoorHk49
import Derived.Lib.Small
set_option maxRecDepth 100000
set_option maxHeartbeats 16000000
set_option linter.unusedSimpArgs false
namespace Go.Proofs.YtpogpkonojhakaaGreatDoor
open Go.RowKit Sc
theorem Mq (s:Tx.St)(p:SP)(N n:Nat)(b:s.zlog=(N:Int))(j:N≤3000)(k:n≤1000)(w:World):
 Cr 207 #[Ah s p,.int .i64 (n:Int)] w (.int .i64 ((1+N+4*n:Nat):Int)):=by
 have e:IntKind.i64.wrap (1+(N:Int))=1+(N:Int):=IntWalk.i64_in _ (by omega);have f:IntKind.i64.wrap (4*(n:Int))=4*(n:Int):=IntWalk.i64_in _ (by omega);have g:IntKind.i64.wrap (1+(N:Int)+4*(n:Int))=1+(N:Int)+4*(n:Int):=IntWalk.i64_in _ (by omega);have h:=Hq b;clear b;go_enter Tryz.func207,Tryz.ntmps207;go_upto_region 1 with fail;have c:=Hq (heap_alloc_new w (.cells (Ak s p) 36));have d:=Hq (Ac w (.cells (Ak s p) 36));obtain⟨i,a⟩:=ex (w.alloc (.cells (Ak s p) 36));rw[← a]at c d ⊢;clear a;have l:=show i.cell? ⟨w.heap.size,0,none⟩=some (.int .i64 (N:Int))from by rw[Aa c.out];show some (Value.int .i64 s.zlog)=_;rw[h.out]
 go_wp2_with fail;go_ret;exact⟨congrArg (fun x=>Ending.returned (.int .i64 x)) (by omega),d.out⟩
theorem aY (s:Tx.St)(p:SP)(n:Nat)(d:s.zpages=(n:Int))(x:Int)(w:World):
 Cr 124 #[Ah s p,x] w (.bool (decide (0≤x∧x<(n:Int)))):=by
 have f:=Hq d;clear d;have g:=Hq (heap_alloc_new w (.cells (Ak s p) 36));have c:=Hq (Ac w (.cells (Ak s p) 36));have e:=Hq (show(w.alloc (.cells (Ak s p) 36)).cell? ⟨w.heap.size,1,none⟩=some (.int .i64 (n:Int))from by rw[Aa g.out];show some (Value.int .i64 s.zpages)=_;rw[f.out])
 by_cases a:0≤x
 ·by_cases b:x<(n:Int)
  ·rw[decide_eq_true (show 0≤x∧x<(n:Int)from⟨a,b⟩)]
   go_enter Tryz.func124,Tryz.ntmps124;go_upto_region 1 with fail;have i:=e.out;go_wp2_with fail;go_ret;exact⟨by simp[a,b],c.out⟩
  ·rw[decide_eq_false (show ¬ (0≤x∧x<(n:Int))from fun h=>b h.2)]
   go_enter Tryz.func124,Tryz.ntmps124;go_upto_region 1 with fail;have i:=e.out;go_wp2_with fail;go_ret;exact⟨by simp[a,b],c.out⟩
 ·rw[decide_eq_false (show ¬ (0≤x∧x<(n:Int))from fun h=>a h.1)]
  go_enter Tryz.func124,Tryz.ntmps124;go_upto_region 1 with fail;go_wp2_with fail;go_ret;exact⟨by simp[a],c.out⟩
theorem lN (b:ByteArray)(f:b.size≤140737488355328)(w:World):
 Cr 209 #[b] w (.string (Ny b)):=by
 have g:=Hq (fun W=>gB b f W);have a:=Hq (fun W=>show Cr 130 #[b,.int .i64 ((Ab b).lsn:Nat)] W (.string (Ny b)) from Je b ((Ab b).lsn:Nat) f W);generalize Ny b=q at a ⊢;generalize ((Ab b).lsn:Nat)=l at g a;go_enter Tryz.func209,Tryz.ntmps209
 go_wp2_with(first
  |(go_at_call 251;(with_reducible refine(g.out _).mono ?_);rintro e h ⟨rfl,c⟩)
  |(go_at_call 130;(with_reducible refine(a.out _).mono ?_);rintro e i ⟨rfl,d⟩))
 go_ret;exact⟨rfl,Af c d⟩
theorem Xy {p:Prop}{w w':World}(a:p)(b:Bw w w'):Mp p w (.returned (.bool true)) w':=⟨true,rfl,⟨fun _=>a,fun _=>rfl⟩,b⟩
theorem Xz {p:Prop}{w w':World}(a:¬ p)(b:Bw w w'):Mp p w (.returned (.bool false)) w':=⟨false,rfl,⟨(fun h=>by cases h),fun h=>absurd h a⟩,b⟩
theorem Vz (f:Fr)(w:World):Cq 205 #[.agg (Fw f)] w (Mp (¬ Full f) w):=by
 obtain⟨c,a,d,e,g⟩:=f
 by_cases h:a=⟨#[]⟩
 ·have b:=Hq (fun w' i=>Xy (p:=¬ Full ⟨c,a,d,e,g⟩) (w:=w) (w':=w') (fun j=>j h) i)
  generalize Mp (¬ Full ⟨c,a,d,e,g⟩) w=Q at b ⊢;subst h;dsimp only[Fw];have k:=R0;go_enter Tryz.func205,Tryz.ntmps205;go_wp2_with fail;exact b.out _ (Ac _ _)
 ·have b:=Hq (fun w' i=>Xz (p:=¬ Full ⟨c,a,d,e,g⟩) (w:=w) (w':=w') (fun j=>j h) i)
  generalize Mp (¬ Full ⟨c,a,d,e,g⟩) w=Q at b ⊢;obtain⟨l,z2,z3⟩:=eC h;clear h;dsimp only[Fw];go_enter Tryz.func205,Tryz.ntmps205;go_wp2_with fail;exact b.out _ (Ac _ _)
theorem tD (f:Fr)(x:Int)(b:Nat)(w:World)(B:w.cell? ⟨b,0,none⟩=some (.int .i64 x)):Cq 204 #[.agg (Fw f),.pointer (some ⟨b,0,none⟩)] w (Mp (Full f∧f.Ae=x) w):=by
 have u:=Hq (fun W=>Vz f W);have C:=Hq B;clear B;have v:b<w.heap.size:=by
  rcases Nat.lt_or_ge b w.heap.size with h|h
  ·exact h
  ·have D:=C.out
   rw[World.cell?,Array.getElem?_eq_none h]at D
   cases D
 have r:=Hq (fun W (d:Bw w W)=>show W.cell? ⟨b,0,none⟩=some (.int .i64 x)from by rw[d.cell (p:=⟨b,0,none⟩) v];exact C.out);have t:=Hq (fun w' d h=>Xy (p:=Full f∧f.Ae=x) (w:=w) (w':=w') h d);have s:=Hq (fun w' d h=>Xz (p:=Full f∧f.Ae=x) (w:=w) (w':=w') h d)
 by_cases k:Full f
 ·by_cases n:f.Ae=x
  ·have l:=Hq (fun w' d=>t.out w' d ⟨k,n⟩)
   generalize Mp (Full f∧f.Ae=x) w=Q at l ⊢;have y:(f.Ae==x)=true:=(by rw[n];exact beq_self_eq_true _);have g:=Hq k;clear k n t s;go_enter Tryz.func204,Tryz.ntmps204;go_upto_region 1 with fail;have i:=Hq (heap_alloc_new w (.cells (Fw f) 125));have j:=Hq (Ac w (.cells (Fw f) 125));obtain⟨E,c⟩:=ex (w.alloc (.cells (Fw f) 125));rw[← c]at i j ⊢;clear c
   go_wp2_with(first
    |with_reducible refine lL i.out Ha ?_
    |(go_at_call 205;refine(u.out _).mono ?_;rintro e o ⟨q,rfl,m,a⟩;obtain rfl:q=false:=(by cases q with|true=>exact absurd g.out (m.1 rfl)|false=>rfl);clear m;have z:=show o.cell? ⟨w.heap.size,0,none⟩=some (.int .i64 f.Ae)from(by rw[Aa (Ag i.out a)];rfl);have A:=r.out o (Af j.out a)))
   exact l.out _ (Af j.out a)
  ·have l:=Hq (fun w' d=>s.out w' d fun h=>n h.2)
   generalize Mp (Full f∧f.Ae=x) w=Q at l ⊢;have y:(f.Ae==x)=false:=beq_eq_false_iff_ne.2 n;have g:=Hq k;clear k n t s;go_enter Tryz.func204,Tryz.ntmps204;go_upto_region 1 with fail;have i:=Hq (heap_alloc_new w (.cells (Fw f) 125));have j:=Hq (Ac w (.cells (Fw f) 125));obtain⟨E,c⟩:=ex (w.alloc (.cells (Fw f) 125));rw[← c]at i j ⊢;clear c
   go_wp2_with(first
    |with_reducible refine lL i.out Ha ?_
    |(go_at_call 205;refine(u.out _).mono ?_;rintro e o ⟨q,rfl,m,a⟩;obtain rfl:q=false:=(by cases q with|true=>exact absurd g.out (m.1 rfl)|false=>rfl);clear m;have z:=show o.cell? ⟨w.heap.size,0,none⟩=some (.int .i64 f.Ae)from(by rw[Aa (Ag i.out a)];rfl);have A:=r.out o (Af j.out a)))
   exact l.out _ (Af j.out a)
 ·have l:=Hq (fun w' d=>s.out w' d fun h=>k h.1)
  generalize Mp (Full f∧f.Ae=x) w=Q at l ⊢;have g:=Hq k;clear k t s;go_enter Tryz.func204,Tryz.ntmps204;go_upto_region 1 with fail;have i:=Hq (heap_alloc_new w (.cells (Fw f) 125));have j:=Hq (Ac w (.cells (Fw f) 125));obtain⟨E,c⟩:=ex (w.alloc (.cells (Fw f) 125));rw[← c]at i j ⊢;clear c
  go_wp2_with(first
   |with_reducible refine lL i.out Ha ?_
   |(go_at_call 205;refine(u.out _).mono ?_;rintro e o ⟨q,rfl,m,a⟩;obtain rfl:q=true:=m.2 g.out;clear m))
  exact l.out _ (Af j.out a)
theorem tE (s:Tx.St)(p:SP)(fs:List Fr)(A:fs.length≤1000)(x:Int)(w:World)(h:Am w s p fs):
 Cq 162 #[Ah s p,x] w (Ib (fun f=>Full f∧f.Ae=x) fs w):=by
 have r:=Hq (fun(b:Nat) W (d:Bw w W) (o:W.cell? ⟨b,0,none⟩=some (.int .i64 x)) (g:b<W.heap.size)=>Tu (fun f=>Full f∧f.Ae=x) 204 #[.pointer (some ⟨b,0,none⟩)] (enters_of Tryz.func204 Kr rfl) fs (by omega) p.F p.fc W (h.fr.below d) (fun f _ V t=>tD f x b V (by rw[t.cell (p:=⟨b,0,none⟩) g];exact o)));have j:=Hq h.fn;have q:=Hq (fun W e w' (d:Bw w W) (u:Ib (fun f=>Full f∧f.Ae=x) fs W e w')=>show Ib (fun f=>Full f∧f.Ae=x) fs w e w' from by
  obtain⟨k,v,y,z⟩:=u;exact⟨k,v,y,Af d z⟩)
 generalize Ib (fun f=>Full f∧f.Ae=x) fs w=Q at q ⊢;clear h;go_enter Tryz.func162,Tryz.ntmps162;go_upto_region 1 with fail;have a:=Nk w (Ak s p) 36 #[x] 3;obtain⟨l,c⟩:=E2 a;rw[← c]at a ⊢;clear c;have o:=show l.cell? ⟨w.heap.size,11,none⟩=some (.slice p.F fs.length p.fc)from by rw[Aa a.out.An,← j.out];rfl
 have m:=Hq (r.out (w.heap.size+1) l a.out.below (by rw[Aa a.out.Ar];rfl) (a.out.lt (i:=1) (by simp)))
 go_wp2_with(go_at_call 203;(refine m.out.mono ?_);rintro e B ⟨k,rfl,hk,n⟩)
 exact q.out l _ _ a.out.below ⟨k,rfl,hk,n⟩
structure Tw (fs fs':List Fr):Prop where
 len:fs'.length=fs.length
 at_:∀ i (h:i<fs.length) (h':i<fs'.length),fs'[i]={fs[i]with mark:=fs'[i].mark}
theorem Tw.refl (fs:List Fr):Tw fs fs:=⟨rfl,fun _ _ _=>rfl⟩
theorem Tw.set {fs a:List Fr}(h:Tw fs a){k:Nat}(hk:k<a.length)(m:Bool):Tw fs (a.set k {a[k]with mark:=m}):=by
 refine⟨by rw[List.length_set];exact h.len,fun i d b=>?_⟩;have g:=h.len;rcases Hb a k {a[k]with mark:=m} i b with⟨e,c⟩|⟨_,f,c⟩
 ·subst e
  rw[c,h.at_ i d hk]
 ·rw[c];exact h.at_ i d f
theorem Qe.marks {fs a:List Fr}(h:Tw fs a){p:Nat}(b:Qe fs p):Qe a p:=by
 obtain⟨i,c,d,f,g⟩:=b;have j:=h.len;have e:=h.at_ i c (by omega);exact⟨i,by omega,by rw[e];exact d,by rw[e];exact f,by rw[e];exact g⟩
theorem vW.marks {n:Nat}{fs c:List Fr}{C:Nat→ByteArray}(h:vW n fs C)(b:Tw fs c):vW n c C:=by
 have m:=b.len;refine⟨fun i a d=>?_,fun i j a k f d g=>?_,fun i a=>?_,fun i a=>?_,fun i a=>?_⟩
 ·have e:=b.at_ i (by omega) a
  rw[e]at d ⊢;exact h.at_ i (by omega) d
 ·have e:=b.at_ i (by omega) a
  have l:=b.at_ j (by omega) k;rw[e]at d ⊢;rw[l]at g ⊢;exact h.ds i j (by omega) (by omega) f d g
 ·rw[b.at_ i (by omega) a];exact h.pin i (by omega)
 ·rw[b.at_ i (by omega) a];exact h.rc i (by omega)
 ·rw[b.at_ i (by omega) a];exact h.sz i (by omega)
theorem PI.marks {N n:Nat}{s:Tx.St}{fs a:List Fr}{C:Nat→ByteArray}(h:PI N n s fs C)(b:Tw fs a):PI N n s a C:=
 ⟨h.zl,h.zp,h.n1,h.pw,by rw[b.len];exact h.nf,h.hd,h.fr.marks b,h.nm,fun p c d=>h.dk p c fun e=>d (e.marks b)⟩
structure tF (a j:Nat) (fs fs':List Fr):Prop where
 mr:Tw fs fs'
 off:∀ i,i<j→∀ h:(a+i)%fs'.length<fs'.length,fs'[(a+i)%fs'.length].mark=false
theorem tG (a:Nat)(fs:List Fr):tF a 0 fs fs:=⟨Tw.refl fs,fun _ h=>absurd h (by omega)⟩
theorem tF.step {a j:Nat}{fs b:List Fr}(h:tF a j fs b)(hk:(a+j)%b.length<b.length):tF a (j+1) fs (b.set ((a+j)%b.length) {b[(a+j)%b.length]with mark:=false}):=by
 refine⟨h.mr.set hk false,fun i e d=>?_⟩;have f:(b.set ((a+j)%b.length) {b[(a+j)%b.length]with mark:=false}).length=b.length:=List.length_set;have key:∀ m,m=b.length→∀ d:(a+i)%m<(b.set ((a+j)%b.length) {b[(a+j)%b.length]with mark:=false}).length,(b.set ((a+j)%b.length) {b[(a+j)%b.length]with mark:=false})[(a+i)%m].mark=false:=by
  intro m g k;subst g;rw[List.getElem_set]
  split
  ·rfl
  ·rename_i c
   exact h.off i (by
    rcases Nat.lt_or_eq_of_le (Nat.le_of_lt_succ e)with h1|h1
    ·exact h1
    ·exact absurd (by rw[h1]) c) (by omega)
 exact key _ f d
theorem tF.round {a:Nat}{fs b:List Fr}(h:tF a b.length fs b)(c:0<b.length)(hk:(a+b.length)%b.length<b.length):b[(a+b.length)%b.length].mark=false:=by
 have e:(a+b.length)%b.length=(a+0)%b.length:=by rw[Nat.add_mod_right,Nat.add_zero]
 have d:=h.off 0 c (by rw[← e];exact hk);have key:∀ q,(a+0)%b.length=q→∀ f:q<b.length,b[q].mark=false:=fun q g f=>by subst g;exact d
 exact key _ e.symm hk
theorem tF.vX {a k:Nat}{fs b:List Fr}(h:tF a k fs b)(f:0<b.length)(d:fs.length=b.length)(e:k=fs.length)(hk:(a+k)%b.length<b.length):b[(a+k)%b.length].mark=false:=by
 subst e;rw[d]at h;have c:=hk;rw[d]at c;have g:=h.round f c;have key:∀ m,m=b.length→∀ i:(a+m)%b.length<b.length,b[(a+m)%b.length].mark=false:=fun m e i=>by subst e;exact g
 exact key _ d hk
theorem qE (a j m:Nat):((a+j)%m+1)%m=(a+(j+1))%m:=by
 rw[show a+(j+1)=(a+j)+1 by omega,Nat.add_mod (a+j) 1 m,Nat.add_mod ((a+j)%m) 1 m,Nat.mod_mod]
theorem yA {P:Program}{op:Oper}{a:Act}{w:World}{K:Act→World→Prop}{Q:Exit→Act→World→Prop}(ty:TypeId)(x y:Operand)(g:op.op= .store ty x y)
 (b o:Nat) (part cur res:Array Value) (t:TypeId) (j:a.eval x= .pointer (some ⟨b,o,none⟩)) (hy:a.eval y= .agg part) (k:w.heap[b]? =some (.cells cur t (0,0))) (l:res=(cur.toList.take o++part.toList++cur.toList.drop (o+part.toList.length)).toArray)
 (e:decide (o+part.toList.length≤cur.size)=true) (hi:(P.info? ty).map (·.size)=some part.size) (m:part.all (·.oneCell')=true) (h:K (a.put op.dst undef) (w.setRow b res)):op.wp P a w K Q:=by
 have c:=run_storeCells_at P b o t part.toList 0 cur w k (by rw[Nat.add_zero];exact of_decide_eq_true e) (fun v n=>(Array.all_eq_true_iff_forall_mem.1 m) v (by simpa using n));rw[Nat.add_zero,← l]at c;have d:(storeVar ty ⟨b,o,none⟩ (.agg part)).run P w= .ok () (w.setRow b res):=by
  cases f:P.info? ty with
  |none=>simp[f]at hi
  |some i=>
   have p:part.size=i.size:=by simp[f]at hi;omega
   simp[storeVar,sizeOf,typeInfo,f,Value.cells,p,c]
 unfold Oper.wp execOp;simp only[g,j,hy,Instr.storeAt,Instr.sureAddr,Sem.run_bind,Sem.run_pure,Result.andThen_ok,d];exact h
theorem Am.set {w:World}{s:Tx.St}{p:SP}{fs:List Fr}(h:Am w s p fs){b:Nat}{cur:Array Value}{t:TypeId}{fr:Nat×Nat}(a:w.heap[b]? =some (.cells cur t fr))(c:t≠9)(d:t≠107)(e:t≠125)(j:Nat)(v:Value):Am (w.setCell ⟨b,j,none⟩ v) s p fs:=by
 rw[setCell_eq_setRow w b j cur t fr v a];exact h.other a c d e _
theorem Am.own {w:World}{s:Tx.St}{p:SP}{fs:List Fr}(h:Am w s p fs){g:Nat}{cur:Array Value}{fr:Nat×Nat}(b:w.heap[g]? =some (.cells cur 125 fr))(a:∀ ad,p.F=some ad→ad.block≠g)(j:Nat)(v:Value):Am (w.setCell ⟨g,j,none⟩ v) s p fs:=
 ⟨h.st.set b (by decide) (by decide) j v,h.fn,h.fr.off g j v (fun _=>a),h.ft.set g j v⟩
theorem Am.Ay {w w':World}{s:Tx.St}{p:SP}{fs:List Fr}(h:Am w s p fs)(b:Bw w w'){d:Lg.Dk}{A:Option Addr}{c:Nat}(l:Lg.Lo)(e:Dd w' d A c)(f:De 0 w' 9 A):Am w' {s with Ay:=d,log:=l} {p with A:=A,c:=c} fs:=by
 have a:=h.below b;exact⟨⟨e,f,a.st.tx,a.st.tt⟩,a.fn,a.fr,a.ft⟩
theorem Nc (s:Tx.St)(p:SP)(fs:List Fr)(K:fs.length≤100)(k:Nat)(hk:k<fs.length)(f:Fr)(w:World)(h:Am w s p fs):
 Cq 131 #[Ah s p,k,.agg (Fw f)] w fun e w'=>∃ q,e= .returned (Ah s q)∧Am w' s q (fs.set k f)∧Bw w w':=by
 have L:=Hq h;have j:=Hq h.fn;have z:=Hq (fun W (M:Bw w W)=>Tv fs (by omega) p.F p.fc W (h.fr.below M));clear h;go_enter Tryz.func131,Tryz.ntmps131;go_upto_region 1 with fail;have b:=Nr w (Ak s p) 36 (Fw f) 125 #[(),(),(),'s',(),false,(),(),(),(),"",'s',(),'s',()] 36;obtain⟨A,l⟩:=E2 b;rw[← l]at b ⊢;clear l;have N:=show A.cell? ⟨w.heap.size,11,none⟩=some (.slice p.F fs.length p.fc)from by rw[Aa b.out.An,← j.out];rfl
 go_upto_region 2 with(go_at_call 169;refine(z.out _ b.out.below).mono ?_;rintro e B ⟨v,rfl,C,m⟩;obtain⟨g,c2,rfl,O⟩:=J4 C (by omega);have H1:=Hq (b.out.step m);have D:=show B.cell? ⟨w.heap.size,11,none⟩=some (.slice p.F fs.length p.fc)from(by rw[Aa H1.out.An,← j.out];rfl);have E:=Ap H1.out.An 11)
 have G:w.heap.size<A.heap.size:=by have:=b.out.lt (i:=0) (by simp);omega
 have n:=Hq (show Ed w.heap.size w [((Ak s {p with F:=some ⟨g,0,none⟩,fn:=fs.length,fc:=c2}),36),((Fw f),125),(#[(),(),(),'s',(),false,(),(),(),(),"",'s',(),'s',()],36)] (B.setCell ⟨w.heap.size,11,none⟩ (.slice (some ⟨g,0,none⟩) fs.length c2))from by have h:=H1.out.set 0 11 (.slice (some ⟨g,0,none⟩) fs.length c2) _ rfl;simpa using h);have c:=Hq (J9 C ⟨w.heap.size,11,none⟩ (.slice (some ⟨g,0,none⟩) fs.length c2) G);generalize B.setCell ⟨w.heap.size,11,none⟩ (.slice (some ⟨g,0,none⟩) fs.length c2)=w2 at n c ⊢;have I:(0:Int)≤(k:Int):=by omega
 have P:(k:Int)<(fs.length:Int):=by omega
 obtain⟨o,r,t⟩:=gS Eb c.out k hk f;have a:w2.there g (k*5) (Fw f).size:=o;have H:=show w2.cell? ⟨w.heap.size,11,none⟩=some (.slice (some ⟨g,0,none⟩) fs.length c2)from by rw[Aa n.out.An];rfl
 clear N D E
 go_upto_region 3 with(first|with_reducible refine lL n.out.Ar Ha ?_|with_reducible refine wpList_store_mid rfl 125 (.tmp 18) (.tmp 17) rfl g (k*5) (Fw f) rfl rfl a Kr Kr ?_)
 have Q:w.heap.size+3≤A.heap.size:=b.out.lt (i:=2) (by simp);have u:=Hq (n.out.under Q t);have x:=Hq r;rw[show([.int .i64 f.Ae,.string f.bytes,.int .i64 f.pins,.bool f.mark,.int .i64 f.rc]:List Value)=Kx f from rfl];generalize w2.setCells g (k*5) (Kx f)=w3 at u x ⊢
 try simp only[Act.put]
 clear o a r t H H1 n c C m
 go_wp2_with(first|with_reducible refine lL u.out.An Aq ?_|with_reducible refine lS (Ak s {p with F:=some ⟨g,0,none⟩,fn:=fs.length,fc:=c2}) u.out.Bj ?_)
 refine rT1 u.out.Bj Aq ?_;have J:=(u.out.row 2 (Ak s {p with F:=some ⟨g,0,none⟩,fn:=fs.length,fc:=c2}) _ rfl).below;have y:=L.out.below J;have d:=I2 x.out (w.heap.size+2) (Ak s {p with F:=some ⟨g,0,none⟩,fn:=fs.length,fc:=c2}) (by omega);exact⟨{p with F:=some ⟨g,0,none⟩,fn:=fs.length,fc:=c2},rfl,⟨⟨y.st.dk,y.st.dt,y.st.tx,y.st.tt⟩,by rw[List.length_set],by rw[List.length_set];exact C5 (by rw[List.length_set]at d;exact d),(De.own d).mono (Nat.zero_le _)⟩,J⟩
theorem aZ (d:Lg.Dk)(A:Option Addr)(c:Nat)(a:Nat)(b:a+4≤d.sectors.length)(e:d.sectors.length≤1000000)(w:World):
 Cr 248 #[Dx d A c,.int .i64 (a:Int)] w (.bool true):=by
 obtain⟨L,left,down⟩:=d;simp only at b e;have g:(0:Int)≤(a:Int):=by omega
 have h:(a:Int)≤(L.length:Int)-4:=by omega
 have f:IntKind.i64.wrap ((L.length:Int)-4)=(L.length:Int)-4:=IntWalk.i64_in _ (by omega);clear b e;go_enter Tryz.func248,Tryz.ntmps248;go_wp2_with fail;go_ret;exact⟨by simp,Ac _ _⟩
theorem lO (L:List ByteArray){a k:Nat}(h:a+k<L.length):Lg.flat ((L.drop a).take (k+1))=Lg.flat ((L.drop a).take k)++(L[a+k]?.getD ⟨#[]⟩).data.toList:=by
 have e:(L.drop a).take (k+1)=(L.drop a).take k++[L[a+k]]:=by
  rw[List.take_add_one,List.getElem?_drop,List.getElem?_eq_getElem h];rfl
 rw[e,Lg.Q3,List.getElem?_eq_getElem h,Option.getD_some]
 congr 1
 unfold Lg.flat
 simp
theorem U6 (d:Lg.Dk)(r:d.down=false)(P:∀ b∈d.sectors,b.size=128)(A:Option Addr)(c:Nat)(a:Nat)(Q:a+4≤d.sectors.length)(w:World)(h:Dd w d A c):
 Cr 206 #[Dx d A c,.int .i64 (a:Int)] w (.tuple #[.string (Gb d a),()]):=by
 have HR:=Hq (fun(k:Nat) (hk:k<4) W (hb:Bw w W)=>show Cr 249 #[Dx d A c,.int .i64 ((a:Int)+(k:Int))] W (.tuple #[.string (d.sectors[a+k]?.getD ⟨#[]⟩),()]) from by
  have h9:=kB d A c ((a:Int)+(k:Int)) W (h.below hb);have e:Lg.Lu d ((a:Int)+(k:Int))=(d.sectors[a+k]?.getD ⟨#[]⟩,0):=by
   unfold Lg.Lu;rw[if_neg (by rw[r];decide),if_pos (show Lg.Hr d _ from⟨by omega,by omega⟩)];unfold Lg.It;rw[show((a:Int)+(k:Int)).toNat=a+k by omega]
  rw[e]at h9;exact h9)
 have D:=Hq (fun W=>aZ d A c a Q h.small W);have E:=Hq (fun(k:Nat) (hk:k<4)=>lO d.sectors (a:=a) (k:=k) (by omega));have F:=Hq (fun(k:Nat) (hk:k<4)=>show(d.sectors[a+k]?.getD ⟨#[]⟩).size=128 from by rw[List.getElem?_eq_getElem (by omega),Option.getD_some];exact P _ (List.getElem_mem _));have G:=Hq (fun k (hk:k≤4)=>show(Lg.flat ((d.sectors.drop a).take k)).length≤512 from by
  have h1:=Lg.Ce (L:=(d.sectors.drop a).take k) (fun x hx=>P x (List.mem_of_mem_drop (List.mem_of_mem_take hx)));have h2:=List.length_take_le k (d.sectors.drop a);omega)
 have s:=Hq (show Gb d a=⟨(Lg.flat ((d.sectors.drop a).take 4)).toArray⟩from rfl);have R:=h.small;have aa:a≤1000000:=by omega
 obtain⟨L,left,down⟩:=d;simp only at r;subst r;dsimp only[Dx]at HR D ⊢;simp only at E F s G Q;generalize Gb ⟨L,left,false⟩ a=pp at s ⊢;clear h P R;clear Q;go_enter Tryz.func206,Tryz.ntmps206;go_upto_region 1 with fail;have m:=Hq (heap_alloc_new w (.cells #[.slice A L.length c,left,false] 28));have t:=Hq (Ac w (.cells #[.slice A L.length c,left,false] 28));obtain⟨W0,H⟩:=ex (w.alloc (.cells #[.slice A L.length c,left,false] 28));rw[← H]at m t ⊢;clear H;have S:=show W0.cell? ⟨w.heap.size,2,none⟩=some (.bool false)from by rw[Aa m.out];rfl
 go_upto_region 4 with(first
  |with_reducible refine lL m.out Fz ?_
  |(go_at_call 248;(with_reducible refine(D.out _).mono ?_);rintro e C ⟨rfl,f⟩))
 clear S;have I:=Hq (Ag (Ag m.out f) (Ac C (.cells #[.pointer none,'s'] 162)));have J:=Hq (heap_alloc_new C (.cells #[.pointer none,'s'] 162));have K:=Hq (Af t.out (Af f (Ac C (.cells #[.pointer none,'s'] 162))));have T:w.heap.size<C.heap.size:=Nat.lt_of_lt_of_le (Bt m.out) f.size;obtain⟨g,M⟩:=ex C.heap.size;obtain⟨U,n⟩:=ex (C.alloc (.cells #[.pointer none,'s'] 162));have hz:U.heap.size=g+1:=by rw[n,M];simp
 rw[← M,← n]at J;rw[← n]at I K;rw[← n,← M];rw[← M]at T;have HZ:=Hq hz;clear n M f m t hz
 try simp only[Act.put]
 go_wp2_with fail
 go_loopw [19] (fun i wr=>∃ k:Nat,k≤4∧i= .int .i64 (k:Int)∧On (g+1) wr.heap.size g (Lg.flat ((L.drop a).take k)) wr∧Es (g+1) g U wr) (fun i _=>4-(intOf i).toNat)
 case atStart=>exact⟨0,by omega,rfl,On.fresh _ _ _ _ (by omega) J.out,Es.refl _ _ _⟩
 case round=>
  obtain⟨k,hk,rfl,q,j⟩:=hrel;have u:=Hq q;have V:=Hq j;have ad:U.heap.size≤wr.heap.size:=j.size;have ae:=HZ.out;have N:Bw w wr:=K.out.trans (V.out.below (by omega) (by omega));have v:=Hq N;clear q j N
  by_cases y:k<4
  ·have af:IntKind.i64.wrap ((a:Int)+(k:Int))=(a:Int)+(k:Int):=IntWalk.i64_in _ (by omega)
   have X:=Hq (show wr.heap[w.heap.size]? =some (.cells #[.slice A L.length c,left,false] 28 (0,0))from(V.out.block _ (by omega) (by omega)).trans I.out);have O:=Hq (HR.out k y wr v.out);have z:=Hq (E.out k y);have Y:=F.out k y;generalize L[a+k]?.getD ⟨#[]⟩=x at O z Y;have B:=G.out k (by omega);generalize Lg.flat ((L.drop a).take k)=l at u z B;have Z:=Hq B;clear B
   go_wp2_with(first
    |with_reducible refine lL X.out Fz ?_
    |(go_at_call 249;(with_reducible refine O.out.mono ?_);rintro e w2 ⟨rfl,f⟩;have a1:=Hq (u.out.below f);have a6:=Hq (V.out.trans (Es.Et (by omega) f));have ag:=f.size;clear f)
    |(go_at_call 156;(with_reducible refine(Mv _ _ _ _ _ _ a1.out (by have:=Z.out;omega) (by omega)).mono ?_);rintro e w3 ⟨rfl,o,p⟩;have a7:=Hq o;have a8:=Hq (a6.out.trans p);clear o p))
   go_roundw
   case rel=>exact⟨k+1,by omega,by go_num,by rw[z.out];exact a7.out,a8.out⟩
   case measure=>simp[intOf];omega
  ·obtain rfl:k=4:=by omega
   go_wp2_with((go_at_call 157;(with_reducible refine(N7 _ _ _ _ _ u.out).mono ?_);rintro e w2 ⟨rfl,p⟩))
   go_ret2;exact⟨by rw[s.out];rfl,v.out.trans (p.below (by omega) v.out.size)⟩
end Go.Proofs.YtpogpkonojhakaaGreatDoor
namespace Rc
theorem zX:sl 0:=⟨by decide,by decide⟩
theorem gW:num 0:=⟨by decide,by decide⟩
theorem lQ {r:Rec}(h:Bx r)(hk:r.kind≠9):(Lg.D9 r).length≤1262:=by
 rw[Lg.Mg];unfold Di;rw[List.length_append,Vq]
 cases h with
 |small kind a prev b q d f g=>
  have k:Gf (bare kind a prev b)=[]:=by
   unfold Gf bare;simp only;rw[if_neg (by omega),if_neg (by omega),if_neg (by omega),if_neg (by omega),if_neg (by omega)]
  rw[k];simp
 |change a prev b Ae op i root e d f g l c m=>
  rw[O1 rfl];have p:=M5 c;have t:(Nv ⟨a,prev,b,2,Ae,0,0,op,i,root,e,[],[]⟩).length≤200:=by
   unfold Nv;rcases m with⟨j,_⟩|⟨j,u,v,s,o⟩
   ·simp only at j;subst j;simp
   ·simp only at j o
    rw[if_neg (show ¬ i=1 by omega)];simp only[List.length_append,Bd,Ta];omega
  simp only[List.length_append,Bd];omega
 |clr a prev b Ae op next d f g l c m=>
  rw[Ru rfl];have p:=M5 c;simp only[List.length_append,Bd];omega
 |nest a prev b next d f g m=>
  rw[Xb rfl];simp only[Bd];omega
 |image a prev b Ae op d f g l c=>
  rw[Rv rfl];have p:=M5 c;simp only[List.length_append,Bd];omega
 |check a prev b n ts ds d f g l c=>exact absurd rfl hk
end Rc
namespace Go.Proofs.YtpogpkonojhakaaGreatDoor
open Go.RowKit Sc
theorem PI.log {N n:Nat}{s:Tx.St}{fs:List Fr}{C:Nat→ByteArray}(h:PI N n s fs C)(r:Rc.Rec)(a:Rc.Bx {r with lsn:=s.log.end_+1})(hk:r.kind≠9)(c:s.log.end_+1262≤(N:Int)*128):
 ∃ g2,Lg.As s.log r=(g2,s.log.end_+1,0)∧PI N n {s with log:=g2} fs C∧s.log.end_<g2.end_∧g2.end_≤s.log.end_+1262:=by
 have d:=Rc.lQ a hk;have f:8≤(Lg.D9 {r with lsn:=s.log.end_+1}).length:=by rw[Lg.Mg];omega
 obtain⟨g2,e,b,g⟩:=h.pw.put r a (by omega);exact⟨g2,e,⟨h.zl,h.zp,h.n1,b,h.nf,h.hd,h.fr,h.nm,h.dk⟩,by omega,by omega⟩
theorem PI.num {N n:Nat}{s:Tx.St}{fs:List Fr}{C:Nat→ByteArray}(h:PI N n s fs C):Rc.num (s.log.end_+1)∧s.log.end_+1≠0∧0≤s.log.end_∧s.log.end_≤384000:=by
 have a:=h.pw.yX;have b:=h.n1.2.2;exact⟨⟨by omega,by omega⟩,by omega,a.1,by omega⟩
theorem V1 {l p:Int}{b:ByteArray}(a:Rc.num l)(c:0≤p∧p<60)(d:b.size≤512):Rc.Bx ⟨l,0,0,8,p,0,0,⟨7,0,⟨#[]⟩,b⟩,0,0,Rc.Cg,[],[]⟩:=
 .image _ _ _ _ _ a Rc.gW Rc.gW ⟨c.1,by omega⟩ ⟨(by decide:(1:Int)≤7),(by decide:(7:Int)≤7),Rc.zX,(by decide:0≤512),d⟩
theorem lR {l v t p:Int}{k:Int}{o b:ByteArray}(a:Rc.num l)(c:Rc.num v)(d:Rc.num t)(e:0≤p∧p<60)(hk:1≤k∧k≤7)(f:o.size≤512)(g:b.size≤512):Rc.Bx ⟨l,v,t,2,p,0,0,⟨k,0,o,b⟩,1,0,Rc.Cg,[],[]⟩:=
 .change _ _ _ _ _ _ _ _ a c d ⟨e.1,by omega⟩ ⟨hk.1,hk.2,Rc.zX,f,g⟩ (.inl ⟨rfl,rfl,rfl⟩)
structure Hk (s s':Tx.St) (fs fs':List Fr):Prop where
 tx:s'.txns=s.txns
 nx:s'.next=s.next
 en:s'.log.end_=s.log.end_
 zf:s'.zframes=s.zframes
 ln:fs'.length=fs.length
theorem Hk.refl (s:Tx.St)(fs:List Fr):Hk s s fs fs:=⟨rfl,rfl,rfl,rfl,rfl⟩
theorem Hk.trans {s s' s2:Tx.St}{fs a fs2:List Fr}(h:Hk s s' fs a)(k:Hk s' s2 a fs2):Hk s s2 fs fs2:=⟨k.tx.trans h.tx,k.nx.trans h.nx,k.en.trans h.en,k.zf.trans h.zf,k.ln.trans h.ln⟩
def Nd (fs fs':List Fr):Prop:=∀ j (h:j<fs.length) (h':j<fs'.length),fs'[j].Ae=fs[j].Ae∧fs'[j].bytes=fs[j].bytes
theorem Nd.refl (fs:List Fr):Nd fs fs:=fun _ _ _=>⟨rfl,rfl⟩
theorem Nd.trans {fs a fs2:List Fr}(h:Nd fs a)(k:Nd a fs2)(e:a.length=fs.length):Nd fs fs2:=fun j b c=>
 ⟨(k j (by omega) c).1.trans (h j b (by omega)).1,(k j (by omega) c).2.trans (h j b (by omega)).2⟩
theorem Nd.marks {fs fs':List Fr}(h:Tw fs fs'):Nd fs fs':=fun j a b=>by rw[h.at_ j a b];exact⟨rfl,rfl⟩
theorem Nd.set (fs:List Fr)(k:Nat)(hk:k<fs.length)(f:Fr)(c:f.Ae=fs[k].Ae)(d:f.bytes=fs[k].bytes):Nd fs (fs.set k f):=fun j g a=>by
 rcases Hb fs k f j a with⟨e,b⟩|⟨_,_,b⟩
 ·subst e;rw[b];exact⟨c,d⟩
 ·rw[b];exact⟨rfl,rfl⟩
theorem Nd.none_ {fs a:List Fr}(h:Nd fs a)(e:a.length=fs.length){p:Int}(d:∀ j (hj:j<fs.length),Full fs[j]→fs[j].Ae≠p):∀ j (hj:j<a.length),Full a[j]→a[j].Ae≠p:=fun j hj b=>by
 have c:=h j (by omega) hj;rw[c.1];refine d j (by omega) ?_;unfold Full at b ⊢;rw[← c.2];exact b
theorem X6 {fs:List Fr}{p:Int}(h:∀ x∈fs,¬ (Full x∧x.Ae=p)):∀ j (hj:j<fs.length),Full fs[j]→fs[j].Ae≠p:=fun j hj a e=>h fs[j] (List.getElem_mem hj) ⟨a,e⟩
theorem Ty {fs:List Fr}{p:Nat}(h:∀ j (hj:j<fs.length),Full fs[j]→fs[j].Ae≠(p:Int)):¬ Qe fs p:=fun⟨i,a,b,c,_⟩=>h i a b c
theorem PI.bytes {N n:Nat}{s:Tx.St}{fs:List Fr}{C:Nat→ByteArray}(h:PI N n s fs C){k:Nat}(hk:k<fs.length){p:Nat}(a:Full fs[k])(b:fs[k].Ae=(p:Int)):p<n∧fs[k].bytes=C p:=by
 obtain⟨q,c,d,f⟩:=h.fr.at_ k hk a;have e:p=q:=Int.ofNat.inj (b.symm.trans d);subst e;exact⟨c,f⟩
theorem tH {C:Nat→ByteArray}{p:Nat}(h:K8 (C p)):C p≠⟨#[]⟩:=fun e=>by have:=h.size;rw[e]at this;exact absurd this (by decide)
end Go.Proofs.YtpogpkonojhakaaGreatDoor
namespace Go
section
variable {P : Program} {ops : Array Oper} {Q : Exit → Act → World → Prop} {md : Region.Mode} {S : World → Prop} {z : Nat}
theorem U7 {i:Nat}{oi:Oper}{v:Value}(hi:ops[i]? =some oi)(l:∀ (j:Nat) (o:Oper) cs b,ops[j]? =some o→o.op≠ .select cs b)
 (I:∀ c a w,Q (.panic c) (a.put oi.dst v) w→Q (.panic c) a w) (n:i≠z):
 ∀ (fuel:Nat) (listed:Array Bool) (a:Act) (w:World),
  (∀ j oj,ops[j]? =some oj→j≠i→listed.getD j true=false→(∀ e∈oj.after,Region.binds md e=true→e.on≠i)→oi.apart ops oj=true)→
  i∈Region.ready md ops listed→YieldsIf P ops (fun _=>True) oi v a→(listed.getD z true=false→S w)→
  E4 P md ops Q S z fuel (listed.setIfInBounds i true) (a.put oi.dst v) w→E4 P md ops Q S z (fuel+1) listed a w:=by
 intro fuel
 induction fuel with
 |zero=>
  intro listed a w _ p A C H;refine⟨fun h=>(by rw[h]at p;cases p),fun j B=>?_⟩
  by_cases d:j=i
  ·subst d;exact A.wpOp hi trivial ⟨fun h=>C (by rw[getD_set_ne true n]at h;exact h),H⟩
  ·have:=ready_mono B d
   rw[H.1]at this
   cases this
 |succ fuel ih=>
  intro listed a w f p A C H;refine⟨fun h=>(by rw[h]at p;cases p),fun j B=>?_⟩
  by_cases d:j=i
  ·subst d;exact A.wpOp hi trivial ⟨fun h=>C (by rw[getD_set_ne true n]at h;exact h),H⟩
  ·have r:=H.2 j (ready_mono B d)
   obtain⟨m,oj,q,s⟩:=mem_ready.1 B;have t:∀ e∈oj.after,Region.binds md e=true→e.on≠i:=fun e J K D=>by
    have r:=s e J K;have L:=(mem_ready.1 p).1;rw[D]at r;rw[Pv L]at r
    cases r
   have M:=wpOp_putIf q (f j oj q d m t) (fun cs b=>l i oi cs b hi) (fun cs b=>l j oj cs b q) I A r;have g:∀ k ok,ops[k]? =some ok→k≠i→(listed.setIfInBounds j true).getD k true=false→
    (∀ e∈ok.after,Region.binds md e=true→e.on≠i)→oi.apart ops ok=true:=fun k ok hk E u F=>by
    refine f k ok hk E ?_ F
    by_cases x:j=k
    ·subst x;exact m
    ·rw[getD_set_ne true x]at u;exact u
   refine wpOp_mono (fun N w' G=>?_) M;have y:(listed.setIfInBounds j true).getD z true=false→S w':=fun h=>G.2.1 (by
    rw[Array.setIfInBounds_comm _ _ (Ne.symm d),getD_set_ne true n];exact h)
   refine⟨y,ih (listed.setIfInBounds j true) N w' g (ready_mono p (Ne.symm d)) G.1 y ?_⟩;rw[Array.setIfInBounds_comm _ _ d];exact G.2.2
theorem Fg {i:Nat}{oi:Oper}{v:Value}{fuel:Nat}{listed:Array Bool}{a:Act}{w:World}(hi:ops[i]? =some oi)(b:(i != z)=true)
 (d:Region.noSelect ops=true) (e:Region.free md ops listed i=true) (f:(Region.ready md ops listed).contains i=true)
 (g:∀ c a w,Q (.panic c) (a.put oi.dst v) w→Q (.panic c) a w) (hy:YieldsIf P ops (fun _=>True) oi v a) (j:listed.getD z true=false→S w)
 (h:E4 P md ops Q S z fuel (listed.setIfInBounds i true) (a.put oi.dst v) w):E4 P md ops Q S z (fuel+1) listed a w:=
 U7 hi (Region.noSelect_spec d) g (by simpa using b) fuel listed a w (Region.free_spec hi e) (by simpa using f) hy j h
end
end Go
namespace Sc
def bit (b:ByteArray)(p:Nat):Bool:=(b.data.toList[p/8]?.getD 0).toNat.testBit (p%8)
def D1 (b:ByteArray)(p:Nat):ByteArray:=⟨(b.data.toList.set (p/8) (UInt8.ofNat ((b.data.toList[p/8]?.getD 0).toNat ^^^ 2^(p%8)))).toArray⟩
theorem Hs (b:ByteArray)(p:Nat):(D1 b p).size=b.size:=by
 show(List.set _ _ _).toArray.size=b.data.size
 simp
theorem V2 (x:UInt8){k:Nat}(hk:k<8):x.toNat ^^^ 2^k<256:=by
 have a:x.toNat<2^8:=x.toNat_lt;have b:2^k<2^8:=Nat.pow_lt_pow_right (by omega) hk;exact Nat.xor_lt_two_pow a b
theorem qF {b:ByteArray}{p:Nat}(h:p/8<b.size)(q:Nat):bit (D1 b p) q=if q=p then !bit b p else bit b q:=by
 have c:p/8<b.data.toList.length:=by simpa using h
 have d:=V2 (b.data.toList[p/8]?.getD 0) (k:=p%8) (by omega);unfold bit
 show((b.data.toList.set (p/8) _)[q/8]?.getD 0).toNat.testBit (q%8)=_
 by_cases e:p/8=q/8
 ·rw[← e,List.getElem?_set_self c,Option.getD_some]
  rw[show(UInt8.ofNat ((b.data.toList[p/8]?.getD 0).toNat ^^^ 2^(p%8))).toNat=(b.data.toList[p/8]?.getD 0).toNat ^^^ 2^(p%8)from by rw[UInt8.toNat_ofNat'];exact Nat.mod_eq_of_lt d];rw[Nat.testBit_xor,Nat.testBit_two_pow]
  by_cases a:q=p
  ·subst a
   rw[if_pos rfl,decide_eq_true rfl,Bool.xor_true]
  ·rw[if_neg a,decide_eq_false (by omega),Bool.xor_false]
 ·rw[List.getElem?_set_ne e,if_neg (by intro h;exact e (by rw[h]))]
def D3 (m:Nat):ByteArray:=⟨(1::List.replicate (m-1) 0).toArray⟩
theorem Tz {m:Nat}(h:1≤m):(D3 m).size=m:=by
 show(1::List.replicate (m-1) (0:UInt8)).toArray.size=m
 simp;omega
theorem lT (m q:Nat):bit (D3 m) q=decide (q=0):=by
 unfold bit
 show(((1:UInt8)::List.replicate (m-1) 0)[q/8]?.getD 0).toNat.testBit (q%8)=_
 by_cases h:q/8=0
 ·rw[h]
  show(1:Nat).testBit (q%8)=_
  rw[show(1:Nat)=2^0 from rfl,Nat.testBit_two_pow]
  by_cases a:q=0
  ·subst a;rfl
  ·rw[decide_eq_false (by omega),decide_eq_false a]
 ·obtain⟨j,b⟩:∃ j,q/8=j+1:=⟨q/8-1,by omega⟩
  rw[b,List.getElem?_cons_succ,decide_eq_false (by omega)]
  by_cases c:j<m-1
  ·rw[List.getElem?_replicate,if_pos c]
   show(0:Nat).testBit _=_
   exact Nat.zero_testBit _
  ·rw[List.getElem?_eq_none (by simp;omega)]
   exact Nat.zero_testBit _
end Sc
namespace Go.Proofs.YtpogpkonojhakaaGreatDoor
open Go.RowKit Sc
structure SI (n:Nat) (C:Nat→ByteArray) (b:ByteArray) (u:Nat→Nat) (V:Nat→Nat×List ByteArray:=fun _=>(0,[])):Prop where
 k0:(Ab (C 0)).kind=1
 r0:(Ab (C 0)).Ai=[b]
 l0:(Ab (C 0)).link=0
 sz:b.size=(n+7)/8
 bt:∀ p,p<n→bit b p=decide (0<u p)
 kp:∀ p,1≤p→p<n→(Ab (C p)).kind=u p
 lp:∀ p,1≤p→p<n→(Ab (C p)).link=(V p).1
 rp:∀ p,1≤p→p<n→(Ab (C p)).Ai=(V p).2
 u0:u 0=1
theorem SI.flip {n:Nat}{C c:Nat→ByteArray}{b:ByteArray}{u:Nat→Nat}{V:Nat→Nat×List ByteArray}(h:SI n C b u V){p k:Nat}(i:p<n)(j:1≤p)(hk:0<k↔¬ 0<u p)
 (c0:(Ab (c 0)).kind=1∧(Ab (c 0)).Ai=[D1 b p]∧(Ab (c 0)).link=0) (g:(Ab (c p)).kind=k∧(Ab (c p)).Ai=[]∧(Ab (c p)).link=0) (co:∀ q,1≤q→q<n→q≠p→c q=C q):
 SI n c (D1 b p) (fun q=>if q=p then k else u q) (fun q=>if q=p then(0,[])else V q):=by
 refine⟨c0.1,c0.2.1,c0.2.2,(Hs _ _).trans h.sz,fun q a=>?_,fun q d a=>?_,fun q d a=>?_,fun q d a=>?_,?_⟩
 ·rw[qF (by rw[h.sz];omega)]
  by_cases e:q=p
  ·rw[if_pos e,if_pos e,h.bt p i]
   by_cases f:0<u p
   ·rw[decide_eq_true f,decide_eq_false (fun l=>hk.1 l f)];rfl
   ·rw[decide_eq_false f,decide_eq_true (hk.2 f)];rfl
  ·rw[if_neg e,if_neg e];exact h.bt q a
 ·by_cases e:q=p
  ·rw[if_pos e,e];exact g.1
  ·rw[if_neg e,co q d a e];exact h.kp q d a
 ·by_cases e:q=p
  ·rw[if_pos e,e];exact g.2.2
  ·rw[if_neg e,co q d a e];exact h.lp q d a
 ·by_cases e:q=p
  ·rw[if_pos e,e];exact g.2.1
  ·rw[if_neg e,co q d a e];exact h.rp q d a
 ·show(if 0=p then k else u 0)=1
  rw[if_neg (by omega)];exact h.u0
def Rm (u:Nat→Nat)(p:Nat):Prop:=∀ q,q<p→0<u q
theorem qG {M a:Nat}(h:a+4≤M):Gb (Lg.Li M) a=Jm:=by
 have e:((Lg.Li M).sectors.drop a).take 4=[Lg.Da,Lg.Da,Lg.Da,Lg.Da]:=by
  apply List.ext_getElem?
  intro j;rw[List.getElem?_take]
  split
  ·rename_i d
   rw[List.getElem?_drop]
   show(List.replicate M Lg.Da)[a+j]? =_
   rw[List.getElem?_replicate,if_pos (by omega)];have:j=0∨j=1∨j=2∨j=3:=(by omega);rcases this with rfl|rfl|rfl|rfl<;>rfl
  ·rw[List.getElem?_eq_none (by simp;omega)]
 unfold Gb;rw[e];have c:Lg.flat [Lg.Da,Lg.Da,Lg.Da,Lg.Da]=List.replicate 512 0:=by
  have b:∀ L,Lg.flat (Lg.Da::L)=List.replicate 128 0++Lg.flat L:=fun L=>rfl;rw[b,b,b,b,Lg.pF,List.append_nil,List.replicate_append_replicate,List.replicate_append_replicate,List.replicate_append_replicate]
 rw[c]
 rfl
def E6 (k:Nat):List Fr:=List.replicate k ⟨0,⟨#[]⟩,0,false,0⟩
theorem Il {k i:Nat}(hi:i<(E6 k).length):(E6 k)[i]=⟨0,⟨#[]⟩,0,false,0⟩:=(List.mem_replicate.1 (List.getElem_mem hi)).2
theorem Gv (k:Nat):(E6 k).length=k:=List.length_replicate
def eG (N n k:Nat):Tx.St:=⟨(N:Int),(n:Int),(k:Int),Lg.Li (1+N+4*n),⟨1,(N:Int),0,0,⟨#[]⟩⟩,0,[],1⟩
theorem qH {N n k:Nat}(c:1≤n∧n≤60∧N≤3000)(hk:1≤k∧k≤64):PI N n (eG N n k) (E6 k) (fun _=>Gm (0:Nat)):=by
 refine⟨rfl,rfl,c,vU N (1+N+4*n) (by omega),by rw[Gv];exact hk,⟨Int.le_refl _,(by decide:(0:Int)≤64)⟩,⟨fun i a b=>?_,fun i j a d _ b _=>?_,fun i a=>?_,fun i a=>?_,fun i a=>?_⟩,fun p _=>(Ln 0 (by omega)).1,fun p e _=>.inr ⟨qG (by omega),rfl⟩⟩
 ·rw[Full,Il a]at b;exact absurd rfl b
 ·rw[Full,Il a]at b;exact absurd rfl b
 ·rw[Il a]
 ·rw[Il a];exact vV
 ·rw[Il a];exact Nat.zero_le _
structure yB (ids:List Int) (s:Tx.St):Prop where
 tl:s.txns.map (·.txn)=ids
 all:∀ a∈s.txns,Rc.Jj a
 len:ids.length≤1000
 op:∀ a∈s.txns,a.done=false
theorem yB.ex {ids:List Int}{s:Tx.St}(h:yB ids s){t:Int}(b:t∈ids):∃ a∈s.txns,a.txn=t:=by
 rw[← h.tl]at b;exact List.mem_map.1 b
theorem yB.small {ids:List Int}{s:Tx.St}(h:yB ids s):s.txns.length≤800000:=by
 have a:=congrArg List.length h.tl;rw[List.length_map]at a;have:=h.len;omega
structure SS (N n k:Nat) (ids:List Int) (c:Int) (s:Tx.St) (fs:List Fr) (C:Nat→ByteArray):Prop where
 pi:PI N n s fs C
 tx:yB ids s
 nf:fs.length=k
 used:s.log.end_≤c
theorem SS.more {N n k:Nat}{ids:List Int}{c a:Int}{s:Tx.St}{fs:List Fr}{C:Nat→ByteArray}(h:SS N n k ids c s fs C)(b:c≤a):SS N n k ids a s fs C:=⟨h.pi,h.tx,h.nf,by have:=h.used;omega⟩
end Go.Proofs.YtpogpkonojhakaaGreatDoor
