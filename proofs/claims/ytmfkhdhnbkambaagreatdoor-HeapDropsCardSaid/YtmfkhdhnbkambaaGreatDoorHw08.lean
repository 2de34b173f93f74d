import Derived.Test.YtmfkhdhnbkambaaGreatDoorHw00
import Derived.Test.YtmfkhdhnbkambaaGreatDoorHw07
import Derived.Test.YtmfkhdhnbkambaaGreatDoorHw02
import Derived.Test.YtmfkhdhnbkambaaGreatDoorHw06
import Derived.Test.YtmfkhdhnbkambaaGreatDoorHw04
import Derived.Test.YtmfkhdhnbkambaaGreatDoorHw01
import Derived.Lib.Small
set_option maxRecDepth 100000
set_option maxHeartbeats 16000000
set_option linter.unusedSimpArgs false
namespace Go.Proofs.YtmfkhdhnbkambaaGreatDoor
open Go.RowKit Sc
theorem Ms (s:Tx.St)(p:SP)(N n:Nat)(b:s.zlog=(N:Int))(j:N≤3000)(k:n≤1000)(w:World):
 Cr 131 #[Ah s p,.int .i64 (n:Int)] w (.int .i64 ((1+N+4*n:Nat):Int)):=by
 have e:IntKind.i64.wrap (1+(N:Int))=1+(N:Int):=IntWalk.i64_in _ (by omega);have f:IntKind.i64.wrap (4*(n:Int))=4*(n:Int):=IntWalk.i64_in _ (by omega);have g:IntKind.i64.wrap (1+(N:Int)+4*(n:Int))=1+(N:Int)+4*(n:Int):=IntWalk.i64_in _ (by omega);have h:=Hq b;clear b;go_enter Tryz.func131,Tryz.ntmps131;go_upto_region 1 with fail;have c:=Hq (heap_alloc_new w (.cells (Ak s p) 36));have d:=Hq (Ac w (.cells (Ak s p) 36));obtain⟨i,a⟩:=ex (w.alloc (.cells (Ak s p) 36));rw[← a]at c d ⊢;clear a;have l:=show i.cell? ⟨w.heap.size,0,none⟩=some (.int .i64 (N:Int))from by rw[Aa c.out];show some (Value.int .i64 s.zlog)=_;rw[h.out]
 go_wp2_with fail;go_ret;exact⟨congrArg (fun x=>Ending.returned (.int .i64 x)) (by omega),d.out⟩
theorem aD (s:Tx.St)(p:SP)(n:Nat)(d:s.zpages=(n:Int))(x:Int)(w:World):
 Cr 75 #[Ah s p,x] w (.bool (decide (0≤x∧x<(n:Int)))):=by
 have f:=Hq d;clear d;have g:=Hq (heap_alloc_new w (.cells (Ak s p) 36));have c:=Hq (Ac w (.cells (Ak s p) 36));have e:=Hq (show(w.alloc (.cells (Ak s p) 36)).cell? ⟨w.heap.size,1,none⟩=some (.int .i64 (n:Int))from by rw[Aa g.out];show some (Value.int .i64 s.zpages)=_;rw[f.out])
 by_cases a:0≤x
 ·by_cases b:x<(n:Int)
  ·rw[decide_eq_true (show 0≤x∧x<(n:Int)from⟨a,b⟩)]
   go_enter Tryz.func75,Tryz.ntmps75;go_upto_region 1 with fail;have i:=e.out;go_wp2_with fail;go_ret;exact⟨by simp[a,b],c.out⟩
  ·rw[decide_eq_false (show ¬ (0≤x∧x<(n:Int))from fun h=>b h.2)]
   go_enter Tryz.func75,Tryz.ntmps75;go_upto_region 1 with fail;have i:=e.out;go_wp2_with fail;go_ret;exact⟨by simp[a,b],c.out⟩
 ·rw[decide_eq_false (show ¬ (0≤x∧x<(n:Int))from fun h=>a h.1)]
  go_enter Tryz.func75,Tryz.ntmps75;go_upto_region 1 with fail;go_wp2_with fail;go_ret;exact⟨by simp[a],c.out⟩
theorem kR (b:ByteArray)(f:b.size≤140737488355328)(w:World):
 Cr 137 #[b] w (.string (Ny b)):=by
 have g:=Hq (fun W=>fI b f W);have a:=Hq (fun W=>show Cr 80 #[b,.int .i64 ((Ab b).lsn:Nat)] W (.string (Ny b)) from Jd b ((Ab b).lsn:Nat) f W);generalize Ny b=q at a ⊢;generalize ((Ab b).lsn:Nat)=l at g a;go_enter Tryz.func137,Tryz.ntmps137
 go_wp2_with(first
  |(go_at_call 86;(with_reducible refine(g.out _).mono ?_);rintro e h ⟨rfl,c⟩)
  |(go_at_call 80;(with_reducible refine(a.out _).mono ?_);rintro e i ⟨rfl,d⟩))
 go_ret;exact⟨rfl,Ag c d⟩
theorem Xh {p:Prop}{w w':World}(a:p)(b:Bw w w'):Mr p w (.returned (.bool true)) w':=⟨true,rfl,⟨fun _=>a,fun _=>rfl⟩,b⟩
theorem Xi {p:Prop}{w w':World}(a:¬ p)(b:Bw w w'):Mr p w (.returned (.bool false)) w':=⟨false,rfl,⟨(fun h=>by cases h),fun h=>absurd h a⟩,b⟩
theorem Vg (f:Fr)(w:World):Cq 47 #[.agg (Fs f)] w (Mr (¬ Full f) w):=by
 obtain⟨c,a,d,e,g⟩:=f
 by_cases h:a=⟨#[]⟩
 ·have b:=Hq (fun w' i=>Xh (p:=¬ Full ⟨c,a,d,e,g⟩) (w:=w) (w':=w') (fun j=>j h) i)
  generalize Mr (¬ Full ⟨c,a,d,e,g⟩) w=Q at b ⊢;subst h;dsimp only[Fs];have k:=Rj;go_enter Tryz.func47,Tryz.ntmps47;go_wp2_with fail;exact b.out _ (Ac _ _)
 ·have b:=Hq (fun w' i=>Xi (p:=¬ Full ⟨c,a,d,e,g⟩) (w:=w) (w':=w') (fun j=>j h) i)
  generalize Mr (¬ Full ⟨c,a,d,e,g⟩) w=Q at b ⊢;obtain⟨l,z2,z3⟩:=dK h;clear h;dsimp only[Fs];go_enter Tryz.func47,Tryz.ntmps47;go_wp2_with fail;exact b.out _ (Ac _ _)
theorem sS (f:Fr)(x:Int)(b:Nat)(w:World)(B:w.cell? ⟨b,0,none⟩=some (.int .i64 x)):Cq 46 #[.agg (Fs f),.pointer (some ⟨b,0,none⟩)] w (Mr (Full f∧f.Ad=x) w):=by
 have u:=Hq (fun W=>Vg f W);have C:=Hq B;clear B;have v:b<w.heap.size:=by
  rcases Nat.lt_or_ge b w.heap.size with h|h
  ·exact h
  ·have D:=C.out
   rw[World.cell?,Array.getElem?_eq_none h]at D
   cases D
 have r:=Hq (fun W (d:Bw w W)=>show W.cell? ⟨b,0,none⟩=some (.int .i64 x)from by rw[d.cell (p:=⟨b,0,none⟩) v];exact C.out);have t:=Hq (fun w' d h=>Xh (p:=Full f∧f.Ad=x) (w:=w) (w':=w') h d);have s:=Hq (fun w' d h=>Xi (p:=Full f∧f.Ad=x) (w:=w) (w':=w') h d)
 by_cases k:Full f
 ·by_cases n:f.Ad=x
  ·have l:=Hq (fun w' d=>t.out w' d ⟨k,n⟩)
   generalize Mr (Full f∧f.Ad=x) w=Q at l ⊢;have y:(f.Ad==x)=true:=(by rw[n];exact beq_self_eq_true _);have g:=Hq k;clear k n t s;go_enter Tryz.func46,Tryz.ntmps46;go_upto_region 1 with fail;have i:=Hq (heap_alloc_new w (.cells (Fs f) 108));have j:=Hq (Ac w (.cells (Fs f) 108));obtain⟨E,c⟩:=ex (w.alloc (.cells (Fs f) 108));rw[← c]at i j ⊢;clear c
   go_wp2_with(first
    |with_reducible refine lL i.out Gy ?_
    |(go_at_call 47;refine(u.out _).mono ?_;rintro e o ⟨q,rfl,m,a⟩;obtain rfl:q=false:=(by cases q with|true=>exact absurd g.out (m.1 rfl)|false=>rfl);clear m;have z:=show o.cell? ⟨w.heap.size,0,none⟩=some (.int .i64 f.Ad)from(by rw[Aa (Af i.out a)];rfl);have A:=r.out o (Ag j.out a)))
   exact l.out _ (Ag j.out a)
  ·have l:=Hq (fun w' d=>s.out w' d fun h=>n h.2)
   generalize Mr (Full f∧f.Ad=x) w=Q at l ⊢;have y:(f.Ad==x)=false:=beq_eq_false_iff_ne.2 n;have g:=Hq k;clear k n t s;go_enter Tryz.func46,Tryz.ntmps46;go_upto_region 1 with fail;have i:=Hq (heap_alloc_new w (.cells (Fs f) 108));have j:=Hq (Ac w (.cells (Fs f) 108));obtain⟨E,c⟩:=ex (w.alloc (.cells (Fs f) 108));rw[← c]at i j ⊢;clear c
   go_wp2_with(first
    |with_reducible refine lL i.out Gy ?_
    |(go_at_call 47;refine(u.out _).mono ?_;rintro e o ⟨q,rfl,m,a⟩;obtain rfl:q=false:=(by cases q with|true=>exact absurd g.out (m.1 rfl)|false=>rfl);clear m;have z:=show o.cell? ⟨w.heap.size,0,none⟩=some (.int .i64 f.Ad)from(by rw[Aa (Af i.out a)];rfl);have A:=r.out o (Ag j.out a)))
   exact l.out _ (Ag j.out a)
 ·have l:=Hq (fun w' d=>s.out w' d fun h=>k h.1)
  generalize Mr (Full f∧f.Ad=x) w=Q at l ⊢;have g:=Hq k;clear k t s;go_enter Tryz.func46,Tryz.ntmps46;go_upto_region 1 with fail;have i:=Hq (heap_alloc_new w (.cells (Fs f) 108));have j:=Hq (Ac w (.cells (Fs f) 108));obtain⟨E,c⟩:=ex (w.alloc (.cells (Fs f) 108));rw[← c]at i j ⊢;clear c
  go_wp2_with(first
   |with_reducible refine lL i.out Gy ?_
   |(go_at_call 47;refine(u.out _).mono ?_;rintro e o ⟨q,rfl,m,a⟩;obtain rfl:q=true:=m.2 g.out;clear m))
  exact l.out _ (Ag j.out a)
theorem sT (s:Tx.St)(p:SP)(fs:List Fr)(A:fs.length≤1000)(x:Int)(w:World)(h:Am w s p fs):
 Cq 14 #[Ah s p,x] w (Hv (fun f=>Full f∧f.Ad=x) fs w):=by
 have r:=Hq (fun(b:Nat) W (d:Bw w W) (o:W.cell? ⟨b,0,none⟩=some (.int .i64 x)) (g:b<W.heap.size)=>Tg (fun f=>Full f∧f.Ad=x) 46 #[.pointer (some ⟨b,0,none⟩)] (enters_of Tryz.func46 Kr rfl) fs (by omega) p.F p.fc W (h.fr.below d) (fun f _ V t=>sS f x b V (by rw[t.cell (p:=⟨b,0,none⟩) g];exact o)));have j:=Hq h.fn;have q:=Hq (fun W e w' (d:Bw w W) (u:Hv (fun f=>Full f∧f.Ad=x) fs W e w')=>show Hv (fun f=>Full f∧f.Ad=x) fs w e w' from by
  obtain⟨k,v,y,z⟩:=u;exact⟨k,v,y,Ag d z⟩)
 generalize Hv (fun f=>Full f∧f.Ad=x) fs w=Q at q ⊢;clear h;go_enter Tryz.func14,Tryz.ntmps14;go_upto_region 1 with fail;have a:=Lx w (Ak s p) 36 #[x] 3;obtain⟨l,c⟩:=E0 a;rw[← c]at a ⊢;clear c;have o:=show l.cell? ⟨w.heap.size,11,none⟩=some (.slice p.F fs.length p.fc)from by rw[Aa a.out.Ao,← j.out];rfl
 have m:=Hq (r.out (w.heap.size+1) l a.out.below (by rw[Aa a.out.Aq];rfl) (a.out.lt (i:=1) (by simp)))
 go_wp2_with(go_at_call 45;(refine m.out.mono ?_);rintro e B ⟨k,rfl,hk,n⟩)
 exact q.out l _ _ a.out.below ⟨k,rfl,hk,n⟩
structure Ti (fs fs':List Fr):Prop where
 len:fs'.length=fs.length
 at_:∀ i (h:i<fs.length) (h':i<fs'.length),fs'[i]={fs[i]with mark:=fs'[i].mark}
theorem Ti.refl (fs:List Fr):Ti fs fs:=⟨rfl,fun _ _ _=>rfl⟩
theorem Ti.set {fs a:List Fr}(h:Ti fs a){k:Nat}(hk:k<a.length)(m:Bool):Ti fs (a.set k {a[k]with mark:=m}):=by
 refine⟨by rw[List.length_set];exact h.len,fun i d b=>?_⟩;have g:=h.len;rcases Gz a k {a[k]with mark:=m} i b with⟨e,c⟩|⟨_,f,c⟩
 ·subst e
  rw[c,h.at_ i d hk]
 ·rw[c];exact h.at_ i d f
theorem P3.marks {fs a:List Fr}(h:Ti fs a){p:Nat}(b:P3 fs p):P3 a p:=by
 obtain⟨i,c,d,f,g⟩:=b;have j:=h.len;have e:=h.at_ i c (by omega);exact⟨i,by omega,by rw[e];exact d,by rw[e];exact f,by rw[e];exact g⟩
theorem vH.marks {n:Nat}{fs c:List Fr}{C:Nat→ByteArray}(h:vH n fs C)(b:Ti fs c):vH n c C:=by
 have m:=b.len;refine⟨fun i a d=>?_,fun i j a k f d g=>?_,fun i a=>?_,fun i a=>?_,fun i a=>?_⟩
 ·have e:=b.at_ i (by omega) a
  rw[e]at d ⊢;exact h.at_ i (by omega) d
 ·have e:=b.at_ i (by omega) a
  have l:=b.at_ j (by omega) k;rw[e]at d ⊢;rw[l]at g ⊢;exact h.ds i j (by omega) (by omega) f d g
 ·rw[b.at_ i (by omega) a];exact h.pin i (by omega)
 ·rw[b.at_ i (by omega) a];exact h.rc i (by omega)
 ·rw[b.at_ i (by omega) a];exact h.sz i (by omega)
theorem PI.marks {N n:Nat}{s:Tx.St}{fs a:List Fr}{C:Nat→ByteArray}(h:PI N n s fs C)(b:Ti fs a):PI N n s a C:=
 ⟨h.zl,h.zp,h.n1,h.pw,by rw[b.len];exact h.nf,h.hd,h.fr.marks b,h.nm,fun p c d=>h.dk p c fun e=>d (e.marks b)⟩
structure sU (a j:Nat) (fs fs':List Fr):Prop where
 mr:Ti fs fs'
 off:∀ i,i<j→∀ h:(a+i)%fs'.length<fs'.length,fs'[(a+i)%fs'.length].mark=false
theorem sV (a:Nat)(fs:List Fr):sU a 0 fs fs:=⟨Ti.refl fs,fun _ h=>absurd h (by omega)⟩
theorem sU.step {a j:Nat}{fs b:List Fr}(h:sU a j fs b)(hk:(a+j)%b.length<b.length):sU a (j+1) fs (b.set ((a+j)%b.length) {b[(a+j)%b.length]with mark:=false}):=by
 refine⟨h.mr.set hk false,fun i e d=>?_⟩;have f:(b.set ((a+j)%b.length) {b[(a+j)%b.length]with mark:=false}).length=b.length:=List.length_set;have key:∀ m,m=b.length→∀ d:(a+i)%m<(b.set ((a+j)%b.length) {b[(a+j)%b.length]with mark:=false}).length,(b.set ((a+j)%b.length) {b[(a+j)%b.length]with mark:=false})[(a+i)%m].mark=false:=by
  intro m g k;subst g;rw[List.getElem_set]
  split
  ·rfl
  ·rename_i c
   exact h.off i (by
    rcases Nat.lt_or_eq_of_le (Nat.le_of_lt_succ e)with h1|h1
    ·exact h1
    ·exact absurd (by rw[h1]) c) (by omega)
 exact key _ f d
theorem sU.round {a:Nat}{fs b:List Fr}(h:sU a b.length fs b)(c:0<b.length)(hk:(a+b.length)%b.length<b.length):b[(a+b.length)%b.length].mark=false:=by
 have e:(a+b.length)%b.length=(a+0)%b.length:=by rw[Nat.add_mod_right,Nat.add_zero]
 have d:=h.off 0 c (by rw[← e];exact hk);have key:∀ q,(a+0)%b.length=q→∀ f:q<b.length,b[q].mark=false:=fun q g f=>by subst g;exact d
 exact key _ e.symm hk
theorem sU.vI {a k:Nat}{fs b:List Fr}(h:sU a k fs b)(f:0<b.length)(d:fs.length=b.length)(e:k=fs.length)(hk:(a+k)%b.length<b.length):b[(a+k)%b.length].mark=false:=by
 subst e;rw[d]at h;have c:=hk;rw[d]at c;have g:=h.round f c;have key:∀ m,m=b.length→∀ i:(a+m)%b.length<b.length,b[(a+m)%b.length].mark=false:=fun m e i=>by subst e;exact g
 exact key _ d hk
theorem pN (a j m:Nat):((a+j)%m+1)%m=(a+(j+1))%m:=by
 rw[show a+(j+1)=(a+j)+1 by omega,Nat.add_mod (a+j) 1 m,Nat.add_mod ((a+j)%m) 1 m,Nat.mod_mod]
theorem xE {P:Program}{op:Oper}{a:Act}{w:World}{K:Act→World→Prop}{Q:Exit→Act→World→Prop}(ty:TypeId)(x y:Operand)(g:op.op= .store ty x y)
 (b o:Nat) (part cur res:Array Value) (t:TypeId) (j:a.eval x= .pointer (some ⟨b,o,none⟩)) (hy:a.eval y= .agg part) (k:w.heap[b]? =some (.cells cur t (0,0))) (l:res=(cur.toList.take o++part.toList++cur.toList.drop (o+part.toList.length)).toArray)
 (e:decide (o+part.toList.length≤cur.size)=true) (hi:(P.info? ty).map (·.size)=some part.size) (m:part.all (·.oneCell')=true) (h:K (a.put op.dst undef) (w.setRow b res)):op.wp P a w K Q:=by
 have c:=run_storeCells_at P b o t part.toList 0 cur w k (by rw[Nat.add_zero];exact of_decide_eq_true e) (fun v n=>(Array.all_eq_true_iff_forall_mem.1 m) v (by simpa using n));rw[Nat.add_zero,← l]at c;have d:(storeVar ty ⟨b,o,none⟩ (.agg part)).run P w= .ok () (w.setRow b res):=by
  cases f:P.info? ty with
  |none=>simp[f]at hi
  |some i=>
   have p:part.size=i.size:=by simp[f]at hi;omega
   simp[storeVar,sizeOf,typeInfo,f,Value.cells,p,c]
 unfold Oper.wp execOp;simp only[g,j,hy,Instr.storeAt,Instr.sureAddr,Sem.run_bind,Sem.run_pure,Result.andThen_ok,d];exact h
theorem Am.set {w:World}{s:Tx.St}{p:SP}{fs:List Fr}(h:Am w s p fs){b:Nat}{cur:Array Value}{t:TypeId}{fr:Nat×Nat}(a:w.heap[b]? =some (.cells cur t fr))(c:t≠9)(d:t≠59)(e:t≠108)(j:Nat)(v:Value):Am (w.setCell ⟨b,j,none⟩ v) s p fs:=by
 rw[setCell_eq_setRow w b j cur t fr v a];exact h.other a c d e _
theorem Am.own {w:World}{s:Tx.St}{p:SP}{fs:List Fr}(h:Am w s p fs){g:Nat}{cur:Array Value}{fr:Nat×Nat}(b:w.heap[g]? =some (.cells cur 108 fr))(a:∀ ad,p.F=some ad→ad.block≠g)(j:Nat)(v:Value):Am (w.setCell ⟨g,j,none⟩ v) s p fs:=
 ⟨h.st.set b (by decide) (by decide) j v,h.fn,h.fr.off g j v (fun _=>a),h.ft.set g j v⟩
theorem Am.Az {w w':World}{s:Tx.St}{p:SP}{fs:List Fr}(h:Am w s p fs)(b:Bw w w'){d:Lg.Dk}{A:Option Addr}{c:Nat}(l:Lg.Lo)(e:Dd w' d A c)(f:De 0 w' 9 A):Am w' {s with Az:=d,log:=l} {p with A:=A,c:=c} fs:=by
 have a:=h.below b;exact⟨⟨e,f,a.st.tx,a.st.tt⟩,a.fn,a.fr,a.ft⟩
theorem Nf (s:Tx.St)(p:SP)(fs:List Fr)(K:fs.length≤100)(k:Nat)(hk:k<fs.length)(f:Fr)(w:World)(h:Am w s p fs):
 Cq 74 #[Ah s p,k,.agg (Fs f)] w fun e w'=>∃ q,e= .returned (Ah s q)∧Am w' s q (fs.set k f)∧Bw w w':=by
 have L:=Hq h;have j:=Hq h.fn;have z:=Hq (fun W (M:Bw w W)=>Th fs (by omega) p.F p.fc W (h.fr.below M));clear h;go_enter Tryz.func74,Tryz.ntmps74;go_upto_region 1 with fail;have b:=Ol w (Ak s p) 36 (Fs f) 108 #[(),(),(),"s",(),false,(),(),(),(),"","s",(),"s",()] 36;obtain⟨A,l⟩:=E0 b;rw[← l]at b ⊢;clear l;have N:=show A.cell? ⟨w.heap.size,11,none⟩=some (.slice p.F fs.length p.fc)from by rw[Aa b.out.Ao,← j.out];rfl
 go_upto_region 2 with(go_at_call 124;refine(z.out _ b.out.below).mono ?_;rintro e B ⟨v,rfl,C,m⟩;obtain⟨g,c2,rfl,O⟩:=J3 C (by omega);have H1:=Hq (b.out.step m);have D:=show B.cell? ⟨w.heap.size,11,none⟩=some (.slice p.F fs.length p.fc)from(by rw[Aa H1.out.Ao,← j.out];rfl);have E:=Ap H1.out.Ao 11)
 have G:w.heap.size<A.heap.size:=by have:=b.out.lt (i:=0) (by simp);omega
 have n:=Hq (show Eg w.heap.size w [((Ak s {p with F:=some ⟨g,0,none⟩,fn:=fs.length,fc:=c2}),36),((Fs f),108),(#[(),(),(),"s",(),false,(),(),(),(),"","s",(),"s",()],36)] (B.setCell ⟨w.heap.size,11,none⟩ (.slice (some ⟨g,0,none⟩) fs.length c2))from by have h:=H1.out.set 0 11 (.slice (some ⟨g,0,none⟩) fs.length c2) _ rfl;simpa using h);have c:=Hq (J9 C ⟨w.heap.size,11,none⟩ (.slice (some ⟨g,0,none⟩) fs.length c2) G);generalize B.setCell ⟨w.heap.size,11,none⟩ (.slice (some ⟨g,0,none⟩) fs.length c2)=w2 at n c ⊢;have I:(0:Int)≤(k:Int):=by omega
 have P:(k:Int)<(fs.length:Int):=by omega
 obtain⟨o,r,t⟩:=gB Eb c.out k hk f;have a:w2.there g (k*5) (Fs f).size:=o;have H:=show w2.cell? ⟨w.heap.size,11,none⟩=some (.slice (some ⟨g,0,none⟩) fs.length c2)from by rw[Aa n.out.Ao];rfl
 clear N D E
 go_upto_region 3 with(first|with_reducible refine lL n.out.Aq Gy ?_|with_reducible refine wpList_store_mid rfl 108 (.tmp 18) (.tmp 17) rfl g (k*5) (Fs f) rfl rfl a Kr Kr ?_)
 have Q:w.heap.size+3≤A.heap.size:=b.out.lt (i:=2) (by simp);have u:=Hq (n.out.under Q t);have x:=Hq r;rw[show([.int .i64 f.Ad,.string f.bytes,.int .i64 f.pins,.bool f.mark,.int .i64 f.rc]:List Value)=Kw f from rfl];generalize w2.setCells g (k*5) (Kw f)=w3 at u x ⊢
 try simp only[Act.put]
 clear o a r t H H1 n c C m
 go_wp2_with(first|with_reducible refine lL u.out.Ao Ar ?_|with_reducible refine lS (Ak s {p with F:=some ⟨g,0,none⟩,fn:=fs.length,fc:=c2}) u.out.Cd ?_)
 refine rT1 u.out.Cd Ar ?_;have J:=(u.out.row 2 (Ak s {p with F:=some ⟨g,0,none⟩,fn:=fs.length,fc:=c2}) _ rfl).below;have y:=L.out.below J;have d:=He x.out (w.heap.size+2) (Ak s {p with F:=some ⟨g,0,none⟩,fn:=fs.length,fc:=c2}) (by omega);exact⟨{p with F:=some ⟨g,0,none⟩,fn:=fs.length,fc:=c2},rfl,⟨⟨y.st.dk,y.st.dt,y.st.tx,y.st.tt⟩,by rw[List.length_set],by rw[List.length_set];exact Cz (by rw[List.length_set]at d;exact d),(De.own d).mono (Nat.zero_le _)⟩,J⟩
theorem aE (d:Lg.Dk)(A:Option Addr)(c:Nat)(a:Nat)(b:a+4≤d.sectors.length)(e:d.sectors.length≤1000000)(w:World):
 Cr 180 #[D1 d A c,.int .i64 (a:Int)] w (.bool true):=by
 obtain⟨L,left,down⟩:=d;simp only at b e;have g:(0:Int)≤(a:Int):=by omega
 have h:(a:Int)≤(L.length:Int)-4:=by omega
 have f:IntKind.i64.wrap ((L.length:Int)-4)=(L.length:Int)-4:=IntWalk.i64_in _ (by omega);clear b e;go_enter Tryz.func180,Tryz.ntmps180;go_wp2_with fail;go_ret;exact⟨by simp,Ac _ _⟩
theorem kS (L:List ByteArray){a k:Nat}(h:a+k<L.length):Lg.flat ((L.drop a).take (k+1))=Lg.flat ((L.drop a).take k)++(L[a+k]?.getD ⟨#[]⟩).data.toList:=by
 have e:(L.drop a).take (k+1)=(L.drop a).take k++[L[a+k]]:=by
  rw[List.take_add_one,List.getElem?_drop,List.getElem?_eq_getElem h];rfl
 rw[e,Lg.Qp,List.getElem?_eq_getElem h,Option.getD_some]
 congr 1
 unfold Lg.flat
 simp
theorem Um (d:Lg.Dk)(r:d.down=false)(P:∀ b∈d.sectors,b.size=128)(A:Option Addr)(c:Nat)(a:Nat)(Q:a+4≤d.sectors.length)(w:World)(h:Dd w d A c):
 Cr 144 #[D1 d A c,.int .i64 (a:Int)] w (.tuple #[.string (Ga d a),()]):=by
 have HR:=Hq (fun(k:Nat) (hk:k<4) W (hb:Bw w W)=>show Cr 186 #[D1 d A c,.int .i64 ((a:Int)+(k:Int))] W (.tuple #[.string (d.sectors[a+k]?.getD ⟨#[]⟩),()]) from by
  have h9:=jG d A c ((a:Int)+(k:Int)) W (h.below hb);have e:Lg.Lt d ((a:Int)+(k:Int))=(d.sectors[a+k]?.getD ⟨#[]⟩,0):=by
   unfold Lg.Lt;rw[if_neg (by rw[r];decide),if_pos (show Lg.Hm d _ from⟨by omega,by omega⟩)];unfold Lg.Iq;rw[show((a:Int)+(k:Int)).toNat=a+k by omega]
  rw[e]at h9;exact h9)
 have D:=Hq (fun W=>aE d A c a Q h.small W);have E:=Hq (fun(k:Nat) (hk:k<4)=>kS d.sectors (a:=a) (k:=k) (by omega));have F:=Hq (fun(k:Nat) (hk:k<4)=>show(d.sectors[a+k]?.getD ⟨#[]⟩).size=128 from by rw[List.getElem?_eq_getElem (by omega),Option.getD_some];exact P _ (List.getElem_mem _));have G:=Hq (fun k (hk:k≤4)=>show(Lg.flat ((d.sectors.drop a).take k)).length≤512 from by
  have h1:=Lg.Co (L:=(d.sectors.drop a).take k) (fun x hx=>P x (List.mem_of_mem_drop (List.mem_of_mem_take hx)));have h2:=List.length_take_le k (d.sectors.drop a);omega)
 have s:=Hq (show Ga d a=⟨(Lg.flat ((d.sectors.drop a).take 4)).toArray⟩from rfl);have R:=h.small;have aa:a≤1000000:=by omega
 obtain⟨L,left,down⟩:=d;simp only at r;subst r;dsimp only[D1]at HR D ⊢;simp only at E F s G Q;generalize Ga ⟨L,left,false⟩ a=pp at s ⊢;clear h P R;clear Q;go_enter Tryz.func144,Tryz.ntmps144;go_upto_region 1 with fail;have m:=Hq (heap_alloc_new w (.cells #[.slice A L.length c,left,false] 28));have t:=Hq (Ac w (.cells #[.slice A L.length c,left,false] 28));obtain⟨W0,H⟩:=ex (w.alloc (.cells #[.slice A L.length c,left,false] 28));rw[← H]at m t ⊢;clear H;have S:=show W0.cell? ⟨w.heap.size,2,none⟩=some (.bool false)from by rw[Aa m.out];rfl
 go_upto_region 4 with(first
  |with_reducible refine lL m.out Fy ?_
  |(go_at_call 180;(with_reducible refine(D.out _).mono ?_);rintro e C ⟨rfl,f⟩))
 clear S;have I:=Hq (Af (Af m.out f) (Ac C (.cells #[.pointer none,"s"] 189)));have J:=Hq (heap_alloc_new C (.cells #[.pointer none,"s"] 189));have K:=Hq (Ag t.out (Ag f (Ac C (.cells #[.pointer none,"s"] 189))));have T:w.heap.size<C.heap.size:=Nat.lt_of_lt_of_le (Bt m.out) f.size;obtain⟨g,M⟩:=ex C.heap.size;obtain⟨U,n⟩:=ex (C.alloc (.cells #[.pointer none,"s"] 189));have hz:U.heap.size=g+1:=by rw[n,M];simp
 rw[← M,← n]at J;rw[← n]at I K;rw[← n,← M];rw[← M]at T;have HZ:=Hq hz;clear n M f m t hz
 try simp only[Act.put]
 go_wp2_with fail
 go_loopw [19] (fun i wr=>∃ k:Nat,k≤4∧i= .int .i64 (k:Int)∧Om (g+1) wr.heap.size g (Lg.flat ((L.drop a).take k)) wr∧Er (g+1) g U wr) (fun i _=>4-(intOf i).toNat)
 case atStart=>exact⟨0,by omega,rfl,Om.fresh _ _ _ _ (by omega) J.out,Er.refl _ _ _⟩
 case round=>
  obtain⟨k,hk,rfl,q,j⟩:=hrel;have u:=Hq q;have V:=Hq j;have ad:U.heap.size≤wr.heap.size:=j.size;have ae:=HZ.out;have N:Bw w wr:=K.out.trans (V.out.below (by omega) (by omega));have v:=Hq N;clear q j N
  by_cases y:k<4
  ·have af:IntKind.i64.wrap ((a:Int)+(k:Int))=(a:Int)+(k:Int):=IntWalk.i64_in _ (by omega)
   have X:=Hq (show wr.heap[w.heap.size]? =some (.cells #[.slice A L.length c,left,false] 28 (0,0))from(V.out.block _ (by omega) (by omega)).trans I.out);have O:=Hq (HR.out k y wr v.out);have z:=Hq (E.out k y);have Y:=F.out k y;generalize L[a+k]?.getD ⟨#[]⟩=x at O z Y;have B:=G.out k (by omega);generalize Lg.flat ((L.drop a).take k)=l at u z B;have Z:=Hq B;clear B
   go_wp2_with(first
    |with_reducible refine lL X.out Fy ?_
    |(go_at_call 186;(with_reducible refine O.out.mono ?_);rintro e w2 ⟨rfl,f⟩;have a1:=Hq (u.out.below f);have a6:=Hq (V.out.trans (Er.Es (by omega) f));have ag:=f.size;clear f)
    |(go_at_call 175;(with_reducible refine(Mw _ _ _ _ _ _ a1.out (by have:=Z.out;omega) (by omega)).mono ?_);rintro e w3 ⟨rfl,o,p⟩;have a7:=Hq o;have a8:=Hq (a6.out.trans p);clear o p))
   go_roundw
   case rel=>exact⟨k+1,by omega,by go_num,by rw[z.out];exact a7.out,a8.out⟩
   case measure=>simp[intOf];omega
  ·obtain rfl:k=4:=by omega
   go_wp2_with((go_at_call 176;(with_reducible refine(N8 _ _ _ _ _ u.out).mono ?_);rintro e w2 ⟨rfl,p⟩))
   go_ret2;exact⟨by rw[s.out];rfl,v.out.trans (p.below (by omega) v.out.size)⟩
end Go.Proofs.YtmfkhdhnbkambaaGreatDoor
namespace Rc
theorem zD:sl 0:=⟨by decide,by decide⟩
theorem gF:num 0:=⟨by decide,by decide⟩
theorem gG {r:Rec}(h:Bu r)(hk:r.kind≠9)(l:r.kind=2→r.how=1):(Lg.D5 r).length≤1072∧(r.kind=8→r.op.By.size=0→(Lg.D5 r).length≤562):=by
 rw[Lg.Mi];unfold Di;rw[List.length_append,U7]
 cases h with
 |small kind a prev b m c d f=>
  have i:Gc (bare kind a prev b)=[]:=by
   unfold Gc bare;simp only;rw[if_neg (by omega),if_neg (by omega),if_neg (by omega),if_neg (by omega),if_neg (by omega)]
  rw[i];simp
 |change a prev b Ad op how root e c d f h4 h5 h6=>
  rw[O0 rfl];have j:=M7 h5;have o:(Nv ⟨a,prev,b,2,Ad,0,0,op,how,root,e,[],[]⟩).length=0:=by
   unfold Nv;rw[if_pos (l rfl)];rfl
  simp only[List.length_append,Bf];exact⟨by omega,fun g=>absurd (show(2:Int)=8 from g) (by decide)⟩
 |clr a prev b Ad op next c d f h4 h5 h6=>
  rw[Rd rfl];have j:=M7 h5;simp only[List.length_append,Bf];exact⟨by omega,fun g=>absurd (show(3:Int)=8 from g) (by decide)⟩
 |nest a prev b next c d f h6=>
  rw[Wo rfl];simp only[Bf];exact⟨by omega,fun g=>absurd (show(4:Int)=8 from g) (by decide)⟩
 |image a prev b Ad op c d f h4 h5=>
  rw[Re rfl];have j:=M7 h5;refine⟨by simp only[List.length_append,Bf];omega,fun _ k=>?_⟩;obtain⟨_,_,_,_,p⟩:=h5;have k:op.By.size=0:=k;unfold M1;simp only[List.length_append,Bf,Sl];omega
 |check a prev b n ts ds c d f h4 h5=>exact absurd rfl hk
end Rc
namespace Go.Proofs.YtmfkhdhnbkambaaGreatDoor
open Go.RowKit Sc
theorem PI.xF {N n:Nat}{s:Tx.St}{fs:List Fr}{C:Nat→ByteArray}(h:PI N n s fs C)(r:Rc.Rec)(a:Rc.Bu {r with lsn:=s.log.end_+1})(B:Int)(c:((Lg.D5 {r with lsn:=s.log.end_+1}).length:Int)≤B)(d:s.log.end_+B≤(N:Int)*128):
 ∃ g2,Lg.As s.log r=(g2,s.log.end_+1,0)∧PI N n {s with log:=g2} fs C∧s.log.end_<g2.end_∧g2.end_≤s.log.end_+B:=by
 have f:8≤(Lg.D5 {r with lsn:=s.log.end_+1}).length:=by rw[Lg.Mi];omega
 obtain⟨g2,e,b,g⟩:=h.pw.put r a (by omega);exact⟨g2,e,⟨h.zl,h.zp,h.n1,b,h.nf,h.hd,h.fr,h.nm,h.dk⟩,by omega,by omega⟩
theorem PI.log {N n:Nat}{s:Tx.St}{fs:List Fr}{C:Nat→ByteArray}(h:PI N n s fs C)(r:Rc.Rec)(a:Rc.Bu {r with lsn:=s.log.end_+1})(hk:r.kind≠9)(b:s.log.end_+1072≤(N:Int)*128)(c:r.kind=2→r.how=1:=by first|exact fun _=>rfl|exact fun h=>absurd h (by decide)):
 ∃ g2,Lg.As s.log r=(g2,s.log.end_+1,0)∧PI N n {s with log:=g2} fs C∧s.log.end_<g2.end_∧g2.end_≤s.log.end_+1072:=
 h.xF r a 1072 (by have:=(Rc.gG a hk c).1;omega) b
theorem PI.xG {N n:Nat}{s:Tx.St}{fs:List Fr}{C:Nat→ByteArray}(h:PI N n s fs C)(r:Rc.Rec)(a:Rc.Bu {r with lsn:=s.log.end_+1})(hk:r.kind=8)(b:r.op.By.size=0)(c:s.log.end_+562≤(N:Int)*128):
 ∃ g2,Lg.As s.log r=(g2,s.log.end_+1,0)∧PI N n {s with log:=g2} fs C∧s.log.end_<g2.end_∧g2.end_≤s.log.end_+562:=
 h.xF r a 562 (by have:=(Rc.gG a (by show r.kind≠9;rw[hk];decide) (fun e=>absurd (hk.symm.trans e) (by decide))).2 hk b;omega) c
theorem PI.num {N n:Nat}{s:Tx.St}{fs:List Fr}{C:Nat→ByteArray}(h:PI N n s fs C):Rc.num (s.log.end_+1)∧s.log.end_+1≠0∧0≤s.log.end_∧s.log.end_≤384000:=by
 have a:=h.pw.yF;have b:=h.n1.2.2;exact⟨⟨by omega,by omega⟩,by omega,a.1,by omega⟩
theorem Vh {l p:Int}{b:ByteArray}(a:Rc.num l)(c:0≤p∧p<60)(d:b.size≤512):Rc.Bu ⟨l,0,0,8,p,0,0,⟨7,0,⟨#[]⟩,b⟩,0,0,Rc.Ce,[],[]⟩:=
 .image _ _ _ _ _ a Rc.gF Rc.gF ⟨c.1,by omega⟩ ⟨(by decide:(1:Int)≤7),(by decide:(7:Int)≤7),Rc.zD,(by decide:0≤512),d⟩
theorem kU {l v t p:Int}{k:Int}{o b:ByteArray}(a:Rc.num l)(c:Rc.num v)(d:Rc.num t)(e:0≤p∧p<60)(hk:1≤k∧k≤7)(f:o.size≤512)(g:b.size≤512):Rc.Bu ⟨l,v,t,2,p,0,0,⟨k,0,o,b⟩,1,0,Rc.Ce,[],[]⟩:=
 .change _ _ _ _ _ _ _ _ a c d ⟨e.1,by omega⟩ ⟨hk.1,hk.2,Rc.zD,f,g⟩ (.inl ⟨rfl,rfl,rfl⟩)
structure Hk (s s':Tx.St) (fs fs':List Fr):Prop where
 tx:s'.txns=s.txns
 nx:s'.next=s.next
 en:s'.log.end_=s.log.end_
 zf:s'.zframes=s.zframes
 ln:fs'.length=fs.length
theorem Hk.refl (s:Tx.St)(fs:List Fr):Hk s s fs fs:=⟨rfl,rfl,rfl,rfl,rfl⟩
theorem Hk.trans {s s' s2:Tx.St}{fs a fs2:List Fr}(h:Hk s s' fs a)(k:Hk s' s2 a fs2):Hk s s2 fs fs2:=⟨k.tx.trans h.tx,k.nx.trans h.nx,k.en.trans h.en,k.zf.trans h.zf,k.ln.trans h.ln⟩
def Ng (fs fs':List Fr):Prop:=∀ j (h:j<fs.length) (h':j<fs'.length),fs'[j].Ad=fs[j].Ad∧fs'[j].bytes=fs[j].bytes
theorem Ng.refl (fs:List Fr):Ng fs fs:=fun _ _ _=>⟨rfl,rfl⟩
theorem Ng.trans {fs a fs2:List Fr}(h:Ng fs a)(k:Ng a fs2)(e:a.length=fs.length):Ng fs fs2:=fun j b c=>
 ⟨(k j (by omega) c).1.trans (h j b (by omega)).1,(k j (by omega) c).2.trans (h j b (by omega)).2⟩
theorem Ng.marks {fs fs':List Fr}(h:Ti fs fs'):Ng fs fs':=fun j a b=>by rw[h.at_ j a b];exact⟨rfl,rfl⟩
theorem Ng.set (fs:List Fr)(k:Nat)(hk:k<fs.length)(f:Fr)(c:f.Ad=fs[k].Ad)(d:f.bytes=fs[k].bytes):Ng fs (fs.set k f):=fun j g a=>by
 rcases Gz fs k f j a with⟨e,b⟩|⟨_,_,b⟩
 ·subst e;rw[b];exact⟨c,d⟩
 ·rw[b];exact⟨rfl,rfl⟩
theorem Ng.none_ {fs a:List Fr}(h:Ng fs a)(e:a.length=fs.length){p:Int}(d:∀ j (hj:j<fs.length),Full fs[j]→fs[j].Ad≠p):∀ j (hj:j<a.length),Full a[j]→a[j].Ad≠p:=fun j hj b=>by
 have c:=h j (by omega) hj;rw[c.1];refine d j (by omega) ?_;unfold Full at b ⊢;rw[← c.2];exact b
theorem Xj {fs:List Fr}{p:Int}(h:∀ x∈fs,¬ (Full x∧x.Ad=p)):∀ j (hj:j<fs.length),Full fs[j]→fs[j].Ad≠p:=fun j hj a e=>h fs[j] (List.getElem_mem hj) ⟨a,e⟩
theorem Tj {fs:List Fr}{p:Nat}(h:∀ j (hj:j<fs.length),Full fs[j]→fs[j].Ad≠(p:Int)):¬ P3 fs p:=fun⟨i,a,b,c,_⟩=>h i a b c
theorem PI.bytes {N n:Nat}{s:Tx.St}{fs:List Fr}{C:Nat→ByteArray}(h:PI N n s fs C){k:Nat}(hk:k<fs.length){p:Nat}(a:Full fs[k])(b:fs[k].Ad=(p:Int)):p<n∧fs[k].bytes=C p:=by
 obtain⟨q,c,d,f⟩:=h.fr.at_ k hk a;have e:p=q:=Int.ofNat.inj (b.symm.trans d);subst e;exact⟨c,f⟩
theorem sX {C:Nat→ByteArray}{p:Nat}(h:Lu (C p)):C p≠⟨#[]⟩:=fun e=>by have:=h.size;rw[e]at this;exact absurd this (by decide)
end Go.Proofs.YtmfkhdhnbkambaaGreatDoor
namespace Go
section
variable {P : Program} {ops : Array Oper} {Q : Exit → Act → World → Prop} {md : Region.Mode} {S : World → Prop} {z : Nat}
theorem Un {i:Nat}{oi:Oper}{v:Value}(hi:ops[i]? =some oi)(l:∀ (j:Nat) (o:Oper) cs b,ops[j]? =some o→o.op≠ .select cs b)
 (I:∀ c a w,Q (.panic c) (a.put oi.dst v) w→Q (.panic c) a w) (n:i≠z):
 ∀ (fuel:Nat) (listed:Array Bool) (a:Act) (w:World),
  (∀ j oj,ops[j]? =some oj→j≠i→listed.getD j true=false→(∀ e∈oj.after,Region.binds md e=true→e.on≠i)→oi.apart ops oj=true)→
  i∈Region.ready md ops listed→YieldsIf P ops (fun _=>True) oi v a→(listed.getD z true=false→S w)→
  E3 P md ops Q S z fuel (listed.setIfInBounds i true) (a.put oi.dst v) w→E3 P md ops Q S z (fuel+1) listed a w:=by
 intro fuel
 induction fuel with
 |zero=>
  intro listed a w _ p A C H;refine⟨fun h=>(by rw[h]at p;cases p),fun j B=>?_⟩
  by_cases d:j=i
  ·subst d;exact A.wpOp hi trivial ⟨fun h=>C (by rw[getD_set_ne true n]at h;exact h),H⟩
  ·have:=ready_mono B d
   rw[H.1]at this
   cases this
 |succ fuel ih=>
  intro listed a w f p A C H;refine⟨fun h=>(by rw[h]at p;cases p),fun j B=>?_⟩
  by_cases d:j=i
  ·subst d;exact A.wpOp hi trivial ⟨fun h=>C (by rw[getD_set_ne true n]at h;exact h),H⟩
  ·have r:=H.2 j (ready_mono B d)
   obtain⟨m,oj,q,s⟩:=mem_ready.1 B;have t:∀ e∈oj.after,Region.binds md e=true→e.on≠i:=fun e J K D=>by
    have r:=s e J K;have L:=(mem_ready.1 p).1;rw[D]at r;rw[Pm L]at r
    cases r
   have M:=wpOp_putIf q (f j oj q d m t) (fun cs b=>l i oi cs b hi) (fun cs b=>l j oj cs b q) I A r;have g:∀ k ok,ops[k]? =some ok→k≠i→(listed.setIfInBounds j true).getD k true=false→
    (∀ e∈ok.after,Region.binds md e=true→e.on≠i)→oi.apart ops ok=true:=fun k ok hk E u F=>by
    refine f k ok hk E ?_ F
    by_cases x:j=k
    ·subst x;exact m
    ·rw[getD_set_ne true x]at u;exact u
   refine wpOp_mono (fun N w' G=>?_) M;have y:(listed.setIfInBounds j true).getD z true=false→S w':=fun h=>G.2.1 (by
    rw[Array.setIfInBounds_comm _ _ (Ne.symm d),getD_set_ne true n];exact h)
   refine⟨y,ih (listed.setIfInBounds j true) N w' g (ready_mono p (Ne.symm d)) G.1 y ?_⟩;rw[Array.setIfInBounds_comm _ _ d];exact G.2.2
theorem Dn {i:Nat}{oi:Oper}{v:Value}{fuel:Nat}{listed:Array Bool}{a:Act}{w:World}(hi:ops[i]? =some oi)(b:(i != z)=true)
 (d:Region.noSelect ops=true) (e:Region.free md ops listed i=true) (f:(Region.ready md ops listed).contains i=true)
 (g:∀ c a w,Q (.panic c) (a.put oi.dst v) w→Q (.panic c) a w) (hy:YieldsIf P ops (fun _=>True) oi v a) (j:listed.getD z true=false→S w)
 (h:E3 P md ops Q S z fuel (listed.setIfInBounds i true) (a.put oi.dst v) w):E3 P md ops Q S z (fuel+1) listed a w:=
 Un hi (Region.noSelect_spec d) g (by simpa using b) fuel listed a w (Region.free_spec hi e) (by simpa using f) hy j h
end
end Go
namespace Sc
def bit (b:ByteArray)(p:Nat):Bool:=(b.data.toList[p/8]?.getD 0).toNat.testBit (p%8)
def Dw (b:ByteArray)(p:Nat):ByteArray:=⟨(b.data.toList.set (p/8) (UInt8.ofNat ((b.data.toList[p/8]?.getD 0).toNat ^^^ 2^(p%8)))).toArray⟩
theorem Ho (b:ByteArray)(p:Nat):(Dw b p).size=b.size:=by
 show(List.set _ _ _).toArray.size=b.data.size
 simp
theorem Vi (x:UInt8){k:Nat}(hk:k<8):x.toNat ^^^ 2^k<256:=by
 have a:x.toNat<2^8:=x.toNat_lt;have b:2^k<2^8:=Nat.pow_lt_pow_right (by omega) hk;exact Nat.xor_lt_two_pow a b
theorem pO {b:ByteArray}{p:Nat}(h:p/8<b.size)(q:Nat):bit (Dw b p) q=if q=p then !bit b p else bit b q:=by
 have c:p/8<b.data.toList.length:=by simpa using h
 have d:=Vi (b.data.toList[p/8]?.getD 0) (k:=p%8) (by omega);unfold bit
 show((b.data.toList.set (p/8) _)[q/8]?.getD 0).toNat.testBit (q%8)=_
 by_cases e:p/8=q/8
 ·rw[← e,List.getElem?_set_self c,Option.getD_some]
  rw[show(UInt8.ofNat ((b.data.toList[p/8]?.getD 0).toNat ^^^ 2^(p%8))).toNat=(b.data.toList[p/8]?.getD 0).toNat ^^^ 2^(p%8)from by rw[UInt8.toNat_ofNat'];exact Nat.mod_eq_of_lt d];rw[Nat.testBit_xor,Nat.testBit_two_pow]
  by_cases a:q=p
  ·subst a
   rw[if_pos rfl,decide_eq_true rfl,Bool.xor_true]
  ·rw[if_neg a,decide_eq_false (by omega),Bool.xor_false]
 ·rw[List.getElem?_set_ne e,if_neg (by intro h;exact e (by rw[h]))]
def D6 (m:Nat):ByteArray:=⟨(1::List.replicate (m-1) 0).toArray⟩
theorem Tk {m:Nat}(h:1≤m):(D6 m).size=m:=by
 show(1::List.replicate (m-1) (0:UInt8)).toArray.size=m
 simp;omega
theorem kV (m q:Nat):bit (D6 m) q=decide (q=0):=by
 unfold bit
 show(((1:UInt8)::List.replicate (m-1) 0)[q/8]?.getD 0).toNat.testBit (q%8)=_
 by_cases h:q/8=0
 ·rw[h]
  show(1:Nat).testBit (q%8)=_
  rw[show(1:Nat)=2^0 from rfl,Nat.testBit_two_pow]
  by_cases a:q=0
  ·subst a;rfl
  ·rw[decide_eq_false (by omega),decide_eq_false a]
 ·obtain⟨j,b⟩:∃ j,q/8=j+1:=⟨q/8-1,by omega⟩
  rw[b,List.getElem?_cons_succ,decide_eq_false (by omega)]
  by_cases c:j<m-1
  ·rw[List.getElem?_replicate,if_pos c]
   show(0:Nat).testBit _=_
   exact Nat.zero_testBit _
  ·rw[List.getElem?_eq_none (by simp;omega)]
   exact Nat.zero_testBit _
end Sc
namespace Go.Proofs.YtmfkhdhnbkambaaGreatDoor
open Go.RowKit Sc
structure SI (n:Nat) (C:Nat→ByteArray) (b:ByteArray) (u:Nat→Nat) (V:Nat→Nat×List ByteArray:=fun _=>(0,[])):Prop where
 k0:(Ab (C 0)).kind=1
 r0:(Ab (C 0)).Ai=[b]
 l0:(Ab (C 0)).link=0
 sz:b.size=(n+7)/8
 bt:∀ p,p<n→bit b p=decide (0<u p)
 kp:∀ p,1≤p→p<n→(Ab (C p)).kind=u p
 lp:∀ p,1≤p→p<n→(Ab (C p)).link=(V p).1
 rp:∀ p,1≤p→p<n→(Ab (C p)).Ai=(V p).2
 u0:u 0=1
theorem SI.flip {n:Nat}{C c:Nat→ByteArray}{b:ByteArray}{u:Nat→Nat}{V:Nat→Nat×List ByteArray}(h:SI n C b u V){p k:Nat}(i:p<n)(j:1≤p)(hk:0<k↔¬ 0<u p)
 (c0:(Ab (c 0)).kind=1∧(Ab (c 0)).Ai=[Dw b p]∧(Ab (c 0)).link=0) (g:(Ab (c p)).kind=k∧(Ab (c p)).Ai=[]∧(Ab (c p)).link=0) (co:∀ q,1≤q→q<n→q≠p→c q=C q):
 SI n c (Dw b p) (fun q=>if q=p then k else u q) (fun q=>if q=p then(0,[])else V q):=by
 refine⟨c0.1,c0.2.1,c0.2.2,(Ho _ _).trans h.sz,fun q a=>?_,fun q d a=>?_,fun q d a=>?_,fun q d a=>?_,?_⟩
 ·rw[pO (by rw[h.sz];omega)]
  by_cases e:q=p
  ·rw[if_pos e,if_pos e,h.bt p i]
   by_cases f:0<u p
   ·rw[decide_eq_true f,decide_eq_false (fun l=>hk.1 l f)];rfl
   ·rw[decide_eq_false f,decide_eq_true (hk.2 f)];rfl
  ·rw[if_neg e,if_neg e];exact h.bt q a
 ·by_cases e:q=p
  ·rw[if_pos e,e];exact g.1
  ·rw[if_neg e,co q d a e];exact h.kp q d a
 ·by_cases e:q=p
  ·rw[if_pos e,e];exact g.2.2
  ·rw[if_neg e,co q d a e];exact h.lp q d a
 ·by_cases e:q=p
  ·rw[if_pos e,e];exact g.2.1
  ·rw[if_neg e,co q d a e];exact h.rp q d a
 ·show(if 0=p then k else u 0)=1
  rw[if_neg (by omega)];exact h.u0
def Q5 (u:Nat→Nat)(p:Nat):Prop:=∀ q,q<p→0<u q
def Hb (u:Nat→Nat)(p:Nat):List Int:=((List.range p).filter fun q=>decide (0<u q)).map Int.ofNat
theorem kW {u:Nat→Nat}{p:Nat}(h:0<u p):Hb u (p+1)=Hb u p++[(p:Int)]:=by
 unfold Hb;rw[List.range_succ,List.filter_append,List.map_append]
 congr 1
 simp[h]
theorem pP {u:Nat→Nat}{p:Nat}(h:¬ 0<u p):Hb u (p+1)=Hb u p:=by
 unfold Hb;rw[List.range_succ,List.filter_append]
 simp[h]
theorem Vj (u:Nat→Nat)(p:Nat):(Hb u p).length≤p:=by
 unfold Hb;rw[List.length_map];have:=List.length_filter_le (fun q=>decide (0<u q)) (List.range p);rw[List.length_range]at this;exact this
theorem pQ {M a:Nat}(h:a+4≤M):Ga (Lg.Li M) a=Jm:=by
 have e:((Lg.Li M).sectors.drop a).take 4=[Lg.C9,Lg.C9,Lg.C9,Lg.C9]:=by
  apply List.ext_getElem?
  intro j;rw[List.getElem?_take]
  split
  ·rename_i d
   rw[List.getElem?_drop]
   show(List.replicate M Lg.C9)[a+j]? =_
   rw[List.getElem?_replicate,if_pos (by omega)];have:j=0∨j=1∨j=2∨j=3:=(by omega);rcases this with rfl|rfl|rfl|rfl<;>rfl
  ·rw[List.getElem?_eq_none (by simp;omega)]
 unfold Ga;rw[e];have c:Lg.flat [Lg.C9,Lg.C9,Lg.C9,Lg.C9]=List.replicate 512 0:=by
  have b:∀ L,Lg.flat (Lg.C9::L)=List.replicate 128 0++Lg.flat L:=fun L=>rfl;rw[b,b,b,b,Lg.oP,List.append_nil,List.replicate_append_replicate,List.replicate_append_replicate,List.replicate_append_replicate]
 rw[c]
 rfl
def E5 (k:Nat):List Fr:=List.replicate k ⟨0,⟨#[]⟩,0,false,0⟩
theorem Ij {k i:Nat}(hi:i<(E5 k).length):(E5 k)[i]=⟨0,⟨#[]⟩,0,false,0⟩:=(List.mem_replicate.1 (List.getElem_mem hi)).2
theorem Gp (k:Nat):(E5 k).length=k:=List.length_replicate
def dO (N n k:Nat):Tx.St:=⟨(N:Int),(n:Int),(k:Int),Lg.Li (1+N+4*n),⟨1,(N:Int),0,0,⟨#[]⟩⟩,0,[],1⟩
theorem pR {N n k:Nat}(c:1≤n∧n≤60∧N≤3000)(hk:1≤k∧k≤64):PI N n (dO N n k) (E5 k) (fun _=>Gi (0:Nat)):=by
 refine⟨rfl,rfl,c,vF N (1+N+4*n) (by omega),by rw[Gp];exact hk,⟨Int.le_refl _,(by decide:(0:Int)≤64)⟩,⟨fun i a b=>?_,fun i j a d _ b _=>?_,fun i a=>?_,fun i a=>?_,fun i a=>?_⟩,fun p _=>(Ln 0 (by omega)).1,fun p e _=>.inr ⟨pQ (by omega),rfl⟩⟩
 ·rw[Full,Ij a]at b;exact absurd rfl b
 ·rw[Full,Ij a]at b;exact absurd rfl b
 ·rw[Ij a]
 ·rw[Ij a];exact vG
 ·rw[Ij a];exact Nat.zero_le _
structure xH (ids:List Int) (s:Tx.St):Prop where
 tl:s.txns.map (·.txn)=ids
 all:∀ a∈s.txns,Rc.Ji a
 len:ids.length≤1000
 op:∀ a∈s.txns,a.done=false
theorem xH.ex {ids:List Int}{s:Tx.St}(h:xH ids s){t:Int}(b:t∈ids):∃ a∈s.txns,a.txn=t:=by
 rw[← h.tl]at b;exact List.mem_map.1 b
theorem xH.small {ids:List Int}{s:Tx.St}(h:xH ids s):s.txns.length≤800000:=by
 have a:=congrArg List.length h.tl;rw[List.length_map]at a;have:=h.len;omega
structure SS (N n k:Nat) (ids:List Int) (c:Int) (s:Tx.St) (fs:List Fr) (C:Nat→ByteArray):Prop where
 pi:PI N n s fs C
 tx:xH ids s
 nf:fs.length=k
 used:s.log.end_≤c
theorem SS.more {N n k:Nat}{ids:List Int}{c a:Int}{s:Tx.St}{fs:List Fr}{C:Nat→ByteArray}(h:SS N n k ids c s fs C)(b:c≤a):SS N n k ids a s fs C:=⟨h.pi,h.tx,h.nf,by have:=h.used;omega⟩
structure Uo (M:Nat) (d:Lg.Dk):Prop where
 sz:∀ x∈d.sectors,x.size=128
 lb: -9223372036854775808≤d.left∧d.left≤9223372036854775807
 len:d.sectors.length=M
theorem Uo.write {M:Nat}{d:Lg.Dk}(h:Uo M d)(a:Int)(b:ByteArray):Uo M (Lg.C6 d a b).1:=by
 unfold Lg.C6
 split
 ·exact h
 ·split
  ·exact h
  ·rename_i e
   split
   ·exact⟨h.sz,h.lb,h.len⟩
   ·refine⟨fun x f=>?_,?_,by show(d.sectors.set _ _).length=M;rw[List.length_set];exact h.len⟩
    ·rcases List.mem_or_eq_of_mem_set f with h1|h1
     ·exact h.sz x h1
     ·rw[h1]
      by_cases c:b.size=128
      ·exact c
      ·exact absurd (fun g=>c g.2) e
    ·have:=h.lb
     show _≤(if 0<d.left then d.left-1 else d.left)∧(if 0<d.left then d.left-1 else d.left)≤_
     split<;>omega
theorem Uo.Cm {M:Nat}(base:Int)(all:List ByteArray):∀ (i:Nat) (d:Lg.Dk),Uo M d→Uo M (Lg.Cm base all i d).1
 |0,_,h=>h
 |i+1,d,h=>by
  have h1:=h.write (base+(i:Int)) (all[i]?.getD ⟨#[]⟩);unfold Lg.Cm
  split
  ·exact Uo.Cm base all i _ h1
  ·exact h1
theorem Uo.force {M:Nat}{d:Lg.Dk}(h:Uo M d)(l:Lg.Lo):Uo M (Lg.Bi d l).1:=by
 unfold Lg.Bi
 split
 ·exact h
 ·simp only
  split
  ·exact Uo.Cm _ _ _ _ h
  ·exact Uo.Cm _ _ _ _ h
def Q6 (d:Lg.Dk)(a:Nat)(b:ByteArray):Nat→Lg.Dk×Int
 |0=>(d,0)
 |k+1=>if(Q6 d a b k).2=0 then Lg.C6 (Q6 d a b k).1 ((a:Int)+(k:Int)) (Gq b k)else Q6 d a b k
theorem Vk {d:Lg.Dk}{a:Nat}{b:ByteArray}{k:Nat}(h:¬ (Q6 d a b k).2=0):∀ j,Q6 d a b (k+j)=Q6 d a b k
 |0=>rfl
 |j+1=>by
  have ih:=Vk h j
  show(if(Q6 d a b (k+j)).2=0 then _ else Q6 d a b (k+j))=_
  rw[ih,if_neg h]
theorem Mt {d:Lg.Dk}{a:Nat}{b:ByteArray}{k:Nat}(h:(Q6 d a b k).2=0):Q6 d a b (k+1)=Lg.C6 (Q6 d a b k).1 ((a:Int)+(k:Int)) (Gq b k):=by
 show(if(Q6 d a b k).2=0 then _ else _)=_
 rw[if_pos h]
theorem Uo.Q6 {M:Nat}{d:Lg.Dk}(h:Uo M d)(a:Nat)(b:ByteArray):∀ k,Uo M (Q6 d a b k).1
 |0=>h
 |k+1=>by
  have ih:=Uo.Q6 h a b k
  by_cases h0:(Go.Proofs.YtmfkhdhnbkambaaGreatDoor.Q6 d a b k).2=0
  ·rw[Mt h0];exact ih.write _ _
  ·rw[Vk h0 1];exact ih
structure Px where
 s:Tx.St
 fs:List Fr
 e:Int
def yZ:Fr:=⟨0,⟨#[]⟩,0,false,0⟩
def Dx (fs:List Fr)(k:Nat):Fr:=fs[k]?.getD yZ
theorem Cu {fs:List Fr}{k:Nat}(h:k<fs.length):Dx fs k=fs[k]:=by unfold Dx;rw[List.getElem?_eq_getElem h];rfl
def Ev (s:Tx.St)(p:Int):Nat:=(1+s.zlog+4*p).toNat
def Ew (s:Tx.St)(p:Int):ByteArray×Int:=
 if s.Az.down=true then(⟨#[]⟩,20)else
 if Ga s.Az (Ev s p)=Jm then(Gi 0,0)else
 if Hu (Ga s.Az (Ev s p))=true then(Ny (Ga s.Az (Ev s p)),0)else(⟨#[]⟩,19)
def dP (n:Nat):Nat→Nat→List Fr→Option (Nat×List Fr)
 |0,_,_=>none
 |j+1,a,fs=>if 0<(Dx fs a).pins then dP n j ((a+1)%n) fs else if(Dx fs a).mark=true then dP n j ((a+1)%n) (fs.set a {Dx fs a with mark:=false})else some (a,fs)
def D2 (s:Tx.St)(fs:List Fr)(k:Nat):Px:=
 if(Dx fs k).rc=0 then⟨s,fs,0⟩else
 if ¬ (Lg.Bi s.Az s.log).2.2=0 then⟨{s with Az:=(Lg.Bi s.Az s.log).1,log:=(Lg.Bi s.Az s.log).2.1},fs,(Lg.Bi s.Az s.log).2.2⟩else
 if ¬ (Q6 (Lg.Bi s.Az s.log).1 (Ev s (Dx fs k).Ad) (Eh (Dx fs k).bytes) 4).2=0 then
  ⟨{s with Az:=(Q6 (Lg.Bi s.Az s.log).1 (Ev s (Dx fs k).Ad) (Eh (Dx fs k).bytes) 4).1,log:=(Lg.Bi s.Az s.log).2.1},fs,(Q6 (Lg.Bi s.Az s.log).1 (Ev s (Dx fs k).Ad) (Eh (Dx fs k).bytes) 4).2⟩
 else⟨{s with Az:=(Q6 (Lg.Bi s.Az s.log).1 (Ev s (Dx fs k).Ad) (Eh (Dx fs k).bytes) 4).1,log:=(Lg.Bi s.Az s.log).2.1},fs.set k {Dx fs k with rc:=0},0⟩
noncomputable def Xy (fs:List Fr) (p:Int):Option Nat:=by
 classical exact fs.findIdx? fun f=>decide (Full f∧f.Ad=p)
noncomputable def Ik (fs:List Fr):Option Nat:=by
 classical exact fs.findIdx? fun f=>decide (¬ Full f)
theorem Tl {α:Type}{P:α→Bool}{l:List α}(h:∀ x∈l,P x=false):l.findIdx? P=none:=List.findIdx?_eq_none_iff.2 h
theorem Tm {α:Type}{P:α→Bool}{l:List α}{k:Nat}(hk:k<l.length)(a:P l[k]=true)(b:∀ j (hj:j<l.length),j<k→P l[j]=false):l.findIdx? P=some k:=by
 rw[List.findIdx?_eq_some_iff_getElem];refine⟨hk,a,fun j hj=>?_⟩;rw[b j (by omega) hj]
 decide
theorem pU {fs:List Fr}{p:Int}(h:∀ x∈fs,¬ (Full x∧x.Ad=p)):Xy fs p=none:=by
 unfold Xy;exact Tl fun x a=>by simpa using h x a
theorem pV {fs:List Fr}{p:Int}{k:Nat}(hk:k<fs.length)(b:Full fs[k]∧fs[k].Ad=p)(c:∀ j (hj:j<fs.length),j<k→¬ (Full fs[j]∧fs[j].Ad=p)):Xy fs p=some k:=by
 unfold Xy;exact Tm hk (by simpa using b) fun j hj a=>by simpa using c j hj a
theorem dQ {fs:List Fr}(h:∀ x∈fs,¬ ¬ Full x):Ik fs=none:=by
 unfold Ik;exact Tl fun x a=>by simpa using h x a
theorem dR {fs:List Fr}{k:Nat}(hk:k<fs.length)(b:¬ Full fs[k])(c:∀ j (hj:j<fs.length),j<k→¬ ¬ Full fs[j]):Ik fs=some k:=by
 unfold Ik;exact Tm hk (by simpa using b) fun j hj a=>by simpa using c j hj a
noncomputable def Bq (s:Tx.St) (fs:List Fr):Px×Nat:=
 match Ik fs with
 |some k=>(⟨s,fs,0⟩,k)
 |none=>match dP fs.length (2*fs.length) (s.hand.toNat%fs.length) fs with
  |none=>(⟨s,fs,18⟩,0)
  |some (k,fs')=>(D2 {s with hand:=(((k+1)%fs.length:Nat):Int)} fs' k,k)
def Hd (s:Tx.St)(fs:List Fr)(x:Px):Px:=if x.e=0∨x.e=20 then x else⟨s,fs,x.e⟩
def Oj (s:Tx.St)(p:Int):Prop:=0≤p∧p<s.zpages
instance (s:Tx.St) (p:Int):Decidable (Oj s p):=by unfold Oj;exact inferInstance
noncomputable def Bj (s:Tx.St) (fs:List Fr) (p:Int):Px×Nat:=
 if ¬ Oj s p then(⟨s,fs,1⟩,0)else
 match Xy fs p with
 |some k=>(⟨s,fs.set k {Dx fs k with mark:=true},0⟩,k)
 |none=>if ¬ (Ew s p).2=0 then(⟨s,fs,(Ew s p).2⟩,0)else
  if(Bq s fs).1.e=0 then(⟨(Bq s fs).1.s,(Bq s fs).1.fs.set (Bq s fs).2 ⟨p,(Ew s p).1,0,true,0⟩,0⟩,(Bq s fs).2)
  else(Hd s fs (Bq s fs).1,0)
noncomputable def Ns (s:Tx.St) (fs:List Fr) (p:Int):Px×ByteArray:=
 ((Bj s fs p).1,if(Bj s fs p).1.e=0 then(Dx (Bj s fs p).1.fs (Bj s fs p).2).bytes else⟨#[]⟩)
def Pc (p:Int)(b:ByteArray):Rc.Rec:=⟨0,0,0,8,p,0,0,⟨7,0,⟨#[]⟩,b⟩,0,0,Rc.Ce,[],[]⟩
noncomputable def Fl (s:Tx.St) (f:Fr) (p:Int):Lg.Lo×Int×Int:=if f.rc=0 then Lg.As s.log (Pc p f.bytes)else(s.log,f.rc,0)
def Fm (ts:List Rc.Be)(i:Nat):Rc.Be:=ts[i]?.getD ⟨0,0,0,false⟩
noncomputable def Tn (x:Px) (k i:Nat) (s:Tx.St) (fs:List Fr) (r:Rc.Rec) (b:ByteArray):Px:=
 let m:=Fl x.s (Dx x.fs k) r.Ad
 if ¬ m.2.2=0 then⟨s,fs,m.2.2⟩else
 let a:=Lg.As m.1 {r with prev:=(Fm x.s.txns i).last}
 if ¬ a.2.2=0 then⟨s,fs,a.2.2⟩else
 ⟨{x.s with log:=a.1,txns:=x.s.txns.set i {Fm x.s.txns i with last:=a.2.1,next:=if r.kind=3 then r.next else a.2.1}},x.fs.set k ⟨(Dx x.fs k).Ad,Bl b a.2.1,(Dx x.fs k).pins,true,m.2.1⟩,0⟩
noncomputable def Cg (s:Tx.St) (fs:List Fr) (r:Rc.Rec) (D:ByteArray→ByteArray×Int):Px:=
 if ¬ ((r.kind=2∨r.kind=3)∧Oj s r.Ad)then⟨s,fs,1⟩else
 match s.txns.findIdx? fun a=>decide (a.txn=r.txn)with
 |none=>⟨s,fs,21⟩
 |some i=>if ¬ (Bj s fs r.Ad).1.e=0 then(Bj s fs r.Ad).1 else
  if ¬ (D (Dx (Bj s fs r.Ad).1.fs (Bj s fs r.Ad).2).bytes).2=0 then⟨s,fs,(D (Dx (Bj s fs r.Ad).1.fs (Bj s fs r.Ad).2).bytes).2⟩else
  Tn (Bj s fs r.Ad).1 (Bj s fs r.Ad).2 i s fs r (D (Dx (Bj s fs r.Ad).1.fs (Bj s fs r.Ad).2).bytes).1
theorem sY (x:Pg.Ct):(⟨(Pg.Cx x).toArray⟩:ByteArray).size≤512:=by
 show(Pg.Cx x).toArray.size≤512
 by_cases h:512<Pg.Ay (Pg.trim x.Ai)
 ·rw[Pg.Yv h];decide
 ·rw[List.size_toArray,Pg.Mf (by omega)];exact Nat.le_refl _
theorem aF (p:ByteArray)(n:Int):(Bl p n).size≤512:=by
 unfold Bl
 split
 ·decide
 ·exact sY _
theorem gH {b:ByteArray}(h:Bk b=true):b≠⟨#[]⟩:=fun e=>by
 have a:=Hg h;rw[e]at a;exact absurd a (by decide)
theorem gI {b:ByteArray}{l:Int}(h:Bk b=true)(a:Rc.num l):Bk (Bl b l)=true:=by
 have d:=a.1;have c:=(Pb h (l:=l.toNat) (by have:=a.2;omega)).1.is
 rwa[show((l.toNat:Nat):Int)=l from by omega]at c
theorem vJ {b:ByteArray}(h:Bk b=true):Bk (Ny b)=true:=(vE h).1.is
structure gJ (n B:Nat) (f:Fr):Prop where
 sz:f.bytes.size≤512
 pn:0≤f.pins∧f.pins≤(B:Int)
 rc:Rc.num f.rc
 pg:0≤f.Ad∧f.Ad<(n:Int)
 is:Full f→Bk f.bytes=true
 rz:f.rc≠0→Full f
structure Wf (N n B:Nat) (s:Tx.St) (fs:List Fr):Prop where
 zl:s.zlog=(N:Int)
 zp:s.zpages=(n:Int)
 n1:1≤n∧n≤60∧N≤3000
 lb:Tx.Z7 s
 al:Lg.Al s.log
 ln:s.log.n=(N:Int)
 ef:s.log.end_≤(N:Int)*128
 dk:Uo (1+N+4*n) s.Az
 nf:1≤fs.length∧fs.length≤64
 hd:0≤s.hand∧s.hand≤64
 fr:∀ i (h:i<fs.length),gJ n B fs[i]
 ds:∀ i j (hi:i<fs.length) (hj:j<fs.length),i≠j→Full fs[i]→Full fs[j]→fs[i].Ad≠fs[j].Ad
 tl:s.txns.length≤800000
 tx:∀ t∈s.txns,Rc.Ji t
theorem gJ.set {n B:Nat}{fs:List Fr}(h:∀ i (h:i<fs.length),gJ n B fs[i])(k:Nat){f:Fr}(b:gJ n B f):∀ i (h:i<(fs.set k f).length),gJ n B (fs.set k f)[i]:=fun i c=>by
 rcases Gz fs k f i c with⟨_,e⟩|⟨_,a,e⟩
 ·rw[e];exact b
 ·rw[e];exact h i a
theorem vK {fs:List Fr}(h:∀ i j (hi:i<fs.length) (hj:j<fs.length),i≠j→Full fs[i]→Full fs[j]→fs[i].Ad≠fs[j].Ad)(k:Nat)(f:Fr)(o:Full f→∀ j (hj:j<fs.length),j≠k→Full fs[j]→f.Ad≠fs[j].Ad):
 ∀ i j (hi:i<(fs.set k f).length) (hj:j<(fs.set k f).length),i≠j→Full (fs.set k f)[i]→Full (fs.set k f)[j]→(fs.set k f)[i].Ad≠(fs.set k f)[j].Ad:=fun i j hi hj d b c=>by
 rcases Gz fs k f i hi with⟨m,e⟩|⟨m,g,e⟩<;>rcases Gz fs k f j hj with⟨n,a⟩|⟨n,l,a⟩
 ·exact absurd (m.trans n.symm) d
 ·rw[e,a];rw[e]at b;rw[a]at c;exact o b j l n c
 ·rw[e,a];rw[e]at b;rw[a]at c;exact fun p=>o c i g m b p.symm
 ·rw[e,a];rw[e]at b;rw[a]at c;exact h i j g l d b c
theorem Wf.put {N n B:Nat}{s:Tx.St}{fs:List Fr}(h:Wf N n B s fs)(k:Nat){f:Fr}(a:gJ n B f)(b:Full f→∀ j (hj:j<fs.length),j≠k→Full fs[j]→f.Ad≠fs[j].Ad):Wf N n B s (fs.set k f):=
 ⟨h.zl,h.zp,h.n1,h.lb,h.al,h.ln,h.ef,h.dk,by rw[List.length_set];exact h.nf,h.hd,gJ.set h.fr k a,vK h.ds k f b,h.tl,h.tx⟩
theorem Wf.set {N n B:Nat}{s:Tx.St}{fs:List Fr}(h:Wf N n B s fs){k:Nat}(hk:k<fs.length){f:Fr}(c:gJ n B f)(d:f.Ad=fs[k].Ad)(g:Full f→Full fs[k]):Wf N n B s (fs.set k f):=
 h.put k c fun i j l a b=>by rw[d];exact h.ds k j hk l (fun e=>a e.symm) (g i) b
theorem gJ.mark {n B:Nat}{f:Fr}(h:gJ n B f)(m:Bool):gJ n B {f with mark:=m}:=⟨h.sz,h.pn,h.rc,h.pg,h.is,h.rz⟩
theorem Kx:Rc.num 0:=⟨by decide,by decide⟩
theorem gJ.clean {n B:Nat}{f:Fr}(h:gJ n B f):gJ n B {f with rc:=0}:=⟨h.sz,h.pn,Kx,h.pg,h.is,fun h=>absurd rfl h⟩
theorem Wf.marks {N n B:Nat}{s:Tx.St}{fs fs':List Fr}(h:Wf N n B s fs)(a:Ti fs fs'):Wf N n B s fs':=
 have g:=a.len
 ⟨h.zl,h.zp,h.n1,h.lb,h.al,h.ln,h.ef,h.dk,by rw[g];exact h.nf,h.hd,fun i b=>by rw[a.at_ i (by omega) b];exact(h.fr i (by omega)).mark _,fun i j b k c d f=>by
   have e:=a.at_ i (by omega) b;have l:=a.at_ j (by omega) k;rw[e]at d ⊢;rw[l]at f ⊢;exact h.ds i j (by omega) (by omega) c d f,h.tl,h.tx⟩
theorem Wf.hand {N n B:Nat}{s:Tx.St}{fs:List Fr}(h:Wf N n B s fs){x:Int}(a:0≤x∧x≤64):Wf N n B {s with hand:=x} fs:=
 ⟨h.zl,h.zp,h.n1,⟨h.lb.e0,h.lb.e1,h.lb.t0,h.lb.t1,h.lb.f,h.lb.n0,h.lb.n1,h.lb.s0,h.lb.s1⟩,h.al,h.ln,h.ef,h.dk,h.nf,a,h.fr,h.ds,h.tl,h.tx⟩
theorem Wf.Az {N n B:Nat}{s:Tx.St}{fs:List Fr}(h:Wf N n B s fs){d:Lg.Dk}(a:Uo (1+N+4*n) d):Wf N n B {s with Az:=d} fs:=
 ⟨h.zl,h.zp,h.n1,⟨h.lb.e0,h.lb.e1,h.lb.t0,h.lb.t1,h.lb.f,h.lb.n0,h.lb.n1,h.lb.s0,h.lb.s1⟩,h.al,h.ln,h.ef,a,h.nf,h.hd,h.fr,h.ds,h.tl,h.tx⟩
structure aG (N:Nat) (l:Lg.Lo):Prop where
 e0:0≤l.end_
 ef:l.end_≤(N:Int)*128
 t0:(l.tail.size:Int)≤l.end_
 t1:l.end_%128≤(l.tail.size:Int)
 f:l.from_=1
 n:l.n=(N:Int)
 al:Lg.Al l
theorem Wf.low {N n B:Nat}{s:Tx.St}{fs:List Fr}(h:Wf N n B s fs):aG N s.log:=⟨h.lb.e0,h.ef,h.lb.t0,h.lb.t1,h.lb.f,h.ln,h.al⟩
theorem Wf.log {N n B:Nat}{s:Tx.St}{fs:List Fr}(h:Wf N n B s fs){l:Lg.Lo}(a:aG N l):Wf N n B {s with log:=l} fs:=by
 have b:=h.n1.2.2;have c:=a.ef;have d:=a.n;exact⟨h.zl,h.zp,h.n1,⟨a.e0,by show l.end_≤_;omega,a.t0,a.t1,a.f,by show 0≤l.n;omega,by show l.n≤_;omega,a.al.s0,a.al.se⟩,a.al,a.n,a.ef,h.dk,h.nf,h.hd,h.fr,h.ds,h.tl,h.tx⟩
theorem aG.forced {N:Nat}{l:Lg.Lo}(h:aG N l):aG N (Lg.J0 l):=by
 have b:=h.e0;have c:=h.t1;have a:((Lg.J0 l).tail.size:Int)=l.end_%128:=by
  unfold Lg.J0
  show((l.tail.extract (l.tail.size-(l.end_%128).toNat) l.tail.size).size:Int)=_
  rw[ByteArray.size_extract];omega
 refine⟨b,h.ef,?_,?_,h.f,h.n,⟨b,Int.le_refl _,?_⟩⟩
 ·rw[a];show _≤l.end_;omega
 ·rw[a];exact Int.le_refl _
 ·rw[a];rfl
theorem aG.force {N:Nat}{l:Lg.Lo}(h:aG N l)(d:Lg.Dk):aG N (Lg.Bi d l).2.1:=by
 unfold Lg.Bi
 split
 ·exact h
 ·simp only
  split
  ·exact h.forced
  ·exact h
theorem aG.append {N:Nat}{l:Lg.Lo}(h:aG N l)(r:Rc.Rec):aG N (Lg.As l r).1:=by
 have a:=Tx.kL r h.al
 revert a
 unfold Lg.As;simp only
 split
 ·intro _;exact h
 ·split
  ·intro _;exact h
  ·rename_i d
   intro a;have e:=h.e0;have g:=h.t0;have i:=h.t1;have b:=h.n;have c:(⟨(Lg.D5 {r with lsn:=l.end_+1}).toArray⟩:ByteArray).size=(Lg.D5 {r with lsn:=l.end_+1}).length:=(by show(Lg.D5 {r with lsn:=l.end_+1}).toArray.size=_;simp);rw[b]at d;refine⟨?_,?_,?_,?_,h.f,b,a⟩
   ·show 0≤l.end_+_;omega
   ·show l.end_+_≤_;omega
   ·show((l.tail++_).size:Int)≤l.end_+_;rw[ByteArray.size_append,c];omega
   ·show(l.end_+_)%128≤((l.tail++_).size:Int);rw[ByteArray.size_append,c];omega
theorem Wf.force {N n B:Nat}{s:Tx.St}{fs:List Fr}(h:Wf N n B s fs):Wf N n B {s with Az:=(Lg.Bi s.Az s.log).1,log:=(Lg.Bi s.Az s.log).2.1} fs:=
 (h.log (h.low.force s.Az)).Az (h.dk.force s.log)
theorem Vl {N n B:Nat}{s:Tx.St}{fs:List Fr}(h:Wf N n B s fs){p:Int}(b:0≤p∧p<(n:Int)):Ev s p+4≤1+N+4*n∧((Ev s p:Nat):Int)=1+s.zlog+4*p:=by
 have a:=h.zl;unfold Ev;rw[a];omega
theorem Wf.flush {N n B:Nat}{s:Tx.St}{fs:List Fr}(h:Wf N n B s fs){k:Nat}(hk:k<fs.length):Wf N n B (D2 s fs k).s (D2 s fs k).fs∧(D2 s fs k).fs.length=fs.length:=by
 have c:=h.force;have d:=fun a b=>c.Az (Uo.Q6 c.dk a b 4);unfold D2
 split
 ·exact⟨h,rfl⟩
 ·split
  ·exact⟨c,rfl⟩
  ·split
   ·exact⟨d _ _,rfl⟩
   ·rw[Cu hk]
    exact⟨(d _ _).set hk (h.fr k hk).clean rfl fun h=>h,List.length_set⟩
theorem Ky (n:Nat)(hn:0<n):∀ (j a:Nat) (fs0 fs:List Fr) (k:Nat) (fs':List Fr),fs.length=n→a<n→Ti fs0 fs→dP n j a fs=some (k,fs')→k<n∧Ti fs0 fs'∧¬ 0<(Dx fs' k).pins
 |0,_,_,_,_,_,_,_,_,h=>by cases h
 |j+1,a,fs0,fs,k,fs',hl,ha,hm,h=>by
  unfold dP at h
  split at h
  ·exact Ky n hn j _ fs0 fs k fs' hl (Nat.mod_lt _ hn) hm h
  ·split at h
   ·rw[Cu (show a<fs.length by omega)]at h
    exact Ky n hn j _ fs0 _ k fs' (by rw[List.length_set];exact hl) (Nat.mod_lt _ hn) (hm.set (by omega) false) h
   ·rename_i h1 _
    injection h with h
    injection h with e1 e2
    subst e1 e2;exact⟨ha,hm,h1⟩
theorem Wf.room {N n B:Nat}{s:Tx.St}{fs:List Fr}(h:Wf N n B s fs):Wf N n B (Bq s fs).1.s (Bq s fs).1.fs∧(Bq s fs).1.fs.length=fs.length∧(Bq s fs).2<fs.length:=by
 have i:=h.nf;unfold Bq
 split
 ·rename_i k hk
  refine⟨h,rfl,?_⟩;unfold Ik at hk;exact(List.findIdx?_eq_some_iff_getElem.1 hk).1
 ·split
  ·exact⟨h,rfl,by show 0<fs.length;omega⟩
  ·rename_i k a c
   obtain⟨d,b,_⟩:=Ky fs.length (by omega) _ _ fs fs k a rfl (Nat.mod_lt _ (by omega)) (Ti.refl fs) c;have e:=b.len;have j:(k+1)%fs.length<fs.length:=Nat.mod_lt _ (by omega);obtain⟨f,g⟩:=((h.hand (x:=(((k+1)%fs.length:Nat):Int)) (by omega)).marks b).flush (k:=k) (by omega);exact⟨f,g.trans e,d⟩
theorem kX (s:Tx.St)(fs:List Fr){k:Nat}(hk:k<fs.length):Ng fs (D2 s fs k).fs:=by
 unfold D2
 split
 ·exact Ng.refl fs
 ·split
  ·exact Ng.refl fs
  ·split
   ·exact Ng.refl fs
   ·rw[Cu hk]
    exact Ng.set fs k hk _ rfl rfl
theorem pW {N n B:Nat}{s:Tx.St}{fs:List Fr}(h:Wf N n B s fs):Ng fs (Bq s fs).1.fs:=by
 have d:=h.nf;unfold Bq
 split
 ·exact Ng.refl fs
 ·split
  ·exact Ng.refl fs
  ·rename_i k a c
   obtain⟨e,b,_⟩:=Ky fs.length (by omega) _ _ fs fs k a rfl (Nat.mod_lt _ (by omega)) (Ti.refl fs) c;exact(Ng.marks b).trans (kX _ _ (by have:=b.len;omega)) b.len
theorem dS {fs:List Fr}{p:Int}(h:Xy fs p=none):∀ j (hj:j<fs.length),Full fs[j]→fs[j].Ad≠p:=fun j hj b e=>by
 unfold Xy at h;have a:=List.findIdx?_eq_none_iff.1 h fs[j] (List.getElem_mem hj);simp only[decide_eq_false_iff_not]at a;exact a ⟨b,e⟩
theorem Wf.back {N n B:Nat}{s:Tx.St}{fs:List Fr}(h:Wf N n B s fs){x:Px}(a:Wf N n B x.s x.fs)(b:x.fs.length=fs.length):Wf N n B (Hd s fs x).s (Hd s fs x).fs∧(Hd s fs x).fs.length=fs.length:=by
 unfold Hd
 split
 ·exact⟨a,b⟩
 ·exact⟨h,rfl⟩
theorem sZ (s:Tx.St)(p:Int)(h:(Ew s p).2=0):Bk (Ew s p).1=true:=by
 unfold Ew at h ⊢
 split
 ·rename_i b;rw[if_pos b]at h;exact absurd h (by decide)
 ·split
  ·exact(Ln 0 (by omega)).1.is
  ·split
   ·rename_i a
    unfold Hu at a;rw[Bool.and_eq_true]at a;exact vJ a.1
   ·rename_i b c a
    rw[if_neg b,if_neg c,if_neg a]at h;exact absurd h (by decide)
theorem tA (s:Tx.St)(p:Int):(Ew s p).1.size≤512:=by
 unfold Ew
 split
 ·decide
 ·split
  ·exact Nat.le_of_eq (Ln 0 (by omega)).1.size
  ·split
   ·exact aF _ _
   ·decide
theorem pX {fs:List Fr}{p:Int}{k:Nat}(h:Xy fs p=some k):∃ hk:k<fs.length,Full fs[k]∧fs[k].Ad=p:=by
 unfold Xy at h;obtain⟨a,b,_⟩:=List.findIdx?_eq_some_iff_getElem.1 h;exact⟨a,by simpa using b⟩
theorem Wf.held {N n B:Nat}{s:Tx.St}{fs:List Fr}(h:Wf N n B s fs)(p:Int):Wf N n B (Bj s fs p).1.s (Bj s fs p).1.fs∧(Bj s fs p).1.fs.length=fs.length∧(Bj s fs p).2<fs.length∧
 ((Bj s fs p).1.e=0→(0≤p∧p<(n:Int))∧Full (Dx (Bj s fs p).1.fs (Bj s fs p).2)∧(Dx (Bj s fs p).1.fs (Bj s fs p).2).Ad=p):=by
 have a:=h.nf;have C:=h.zp;have l:0<fs.length:=by omega
 by_cases c:Oj s p
 ·have b:0≤p∧p<(n:Int):=by unfold Oj at c;omega
  cases d:Xy fs p with
  |some k=>
   have e:Bj s fs p=(⟨s,fs.set k {Dx fs k with mark:=true},0⟩,k):=by
    unfold Bj;rw[if_neg (fun a=>a c),d]
   rw[e];obtain⟨hk,v,w⟩:=pX d;rw[Cu hk];refine⟨h.set hk ((h.fr k hk).mark true) rfl fun h=>h,List.length_set,hk,fun _=>⟨b,?_⟩⟩;simp only;rw[Cu (by rw[List.length_set];exact hk),List.getElem_set_self];exact⟨v,w⟩
  |none=>
   by_cases f:(Ew s p).2=0
   ·obtain⟨r,i,t⟩:=h.room
    by_cases m:(Bq s fs).1.e=0
    ·have e:Bj s fs p=(⟨(Bq s fs).1.s,(Bq s fs).1.fs.set (Bq s fs).2 ⟨p,(Ew s p).1,0,true,0⟩,0⟩,(Bq s fs).2):=by
      unfold Bj;rw[if_neg (fun a=>a c),d];simp only;rw[if_neg (fun a=>a f),if_pos m]
     rw[e];have u:=sZ s p f;have o:=gH u;refine⟨r.put _ ⟨tA s p,⟨Int.le_refl _,by show(0:Int)≤(B:Int);omega⟩,Kx,b,fun _=>u,fun h=>absurd rfl h⟩ (fun _ j x _ q=>fun y=>(pW h).none_ i (dS d) j x q y.symm),by rw[List.length_set];exact i,t,fun _=>⟨b,?_⟩⟩;simp only;rw[Cu (by rw[List.length_set,i];exact t),List.getElem_set_self];exact⟨o,rfl⟩
    ·have e:Bj s fs p=(Hd s fs (Bq s fs).1,0):=by
      unfold Bj;rw[if_neg (fun a=>a c),d];simp only;rw[if_neg (fun a=>a f),if_neg m]
     rw[e];obtain⟨z,A⟩:=h.back r i;refine⟨z,A,l,fun g=>absurd g ?_⟩;unfold Hd;simp only
     split<;>exact m
   ·have e:Bj s fs p=(⟨s,fs,(Ew s p).2⟩,0):=by
     unfold Bj;rw[if_neg (fun a=>a c),d];simp only;rw[if_pos f]
    rw[e];exact⟨h,rfl,l,fun g=>absurd g f⟩
 ·have e:Bj s fs p=(⟨s,fs,1⟩,0):=by unfold Bj;rw[if_pos c]
  rw[e];exact⟨h,rfl,l,fun g=>absurd g (by show ¬ (1:Int)=0;decide)⟩
theorem To {N:Nat}{l:Lg.Lo}(h:aG N l)(a:N≤3000)(r:Rc.Rec):Rc.num (Lg.As l r).2.1:=by
 have b:=h.e0;have c:=h.ef;unfold Lg.As;simp only
 split
 ·exact Kx
 ·split
  ·exact Kx
  ·exact⟨by show 0≤l.end_+1;omega,by show l.end_+1<_;omega⟩
theorem Vm {l:Lg.Lo}{r:Rc.Rec}(h:(Lg.As l r).2.2=0):Rc.Bu {r with lsn:=l.end_+1}∧(Lg.As l r).2.1=l.end_+1:=by
 unfold Lg.As at h ⊢;simp only at h ⊢
 split at h
 ·exact absurd h (by show ¬ (1:Int)=0;decide)
 ·rename_i a
  split at h
  ·exact absurd h (by show ¬ (18:Int)=0;decide)
  ·rename_i b
   rw[if_neg a,if_neg b];exact⟨Classical.byContradiction fun c=>a c,rfl⟩
theorem dT {r:Rc.Rec}(h:Rc.Bu r)(hk:r.kind=3):Rc.num r.next:=by
 cases h with
 |small kind a prev b g c d f=>exact Kx
 |change a prev b Ad op how root e c d f h4 h5 h6=>exact absurd hk (by show ¬ (2:Int)=3;decide)
 |clr a prev b Ad op next c d f h4 h5 h6=>exact h6
 |nest a prev b next c d f h6=>exact h6
 |image a prev b Ad op c d f h4 h5=>exact absurd hk (by show ¬ (8:Int)=3;decide)
 |check a prev b n ts ds c d f h4 h5=>exact absurd hk (by show ¬ (9:Int)=3;decide)
theorem J4 {a:List Rc.Be}{i:Nat}(h:i<a.length):Fm a i=a[i]:=by unfold Fm;rw[List.getElem?_eq_getElem h];rfl
theorem Wf.zI {N n B:Nat}{s:Tx.St}{fs:List Fr}(h:Wf N n B s fs){x:Px}(d:Wf N n B x.s x.fs)(y:x.fs.length=fs.length){k i:Nat}(hk:k<x.fs.length)(hi:i<x.s.txns.length)(r:Rc.Rec){b:ByteArray}(o:Bk b=true)(p:Full (Dx x.fs k)):
 Wf N n B (Tn x k i s fs r b).s (Tn x k i s fs r b).fs∧(Tn x k i s fs r b).fs.length=fs.length:=by
 have q:=h.n1.2.2;rw[Cu hk]at p;have g:aG N (Fl x.s (Dx x.fs k) r.Ad).1∧Rc.num (Fl x.s (Dx x.fs k) r.Ad).2.1:=by
  unfold Fl
  split
  ·exact⟨d.low.append _,To d.low q _⟩
  ·rw[Cu hk]
   exact⟨d.low,(d.fr k hk).rc⟩
 unfold Tn;simp only;generalize Fl x.s (Dx x.fs k) r.Ad=m at g ⊢
 split
 ·exact⟨h,rfl⟩
 ·have u:=g.1.append {r with prev:=(Fm x.s.txns i).last}
  have e:=To g.1 q {r with prev:=(Fm x.s.txns i).last};have v:=Vm (l:=m.1) (r:={r with prev:=(Fm x.s.txns i).last});generalize Lg.As m.1 {r with prev:=(Fm x.s.txns i).last}=a at u e v ⊢
  split
  ·exact⟨h,rfl⟩
  ·rename_i z
   have j:=(v (Classical.byContradiction fun A=>z A)).1;have C:=d.log u;have w:=d.fr k hk;rw[Cu hk];have c:=C.set hk (f:=⟨x.fs[k].Ad,Bl b a.2.1,x.fs[k].pins,true,m.2.1⟩) ⟨aF _ _,w.pn,g.2,w.pg,fun _=>gI o e,fun _=>gH (gI o e)⟩ rfl (fun _=>p);refine⟨⟨c.zl,c.zp,c.n1,⟨c.lb.e0,c.lb.e1,c.lb.t0,c.lb.t1,c.lb.f,c.lb.n0,c.lb.n1,c.lb.s0,c.lb.s1⟩,c.al,c.ln,c.ef,c.dk,c.nf,c.hd,c.fr,c.ds,by show(x.s.txns.set _ _).length≤_;rw[List.length_set];exact d.tl,fun t D=>?_⟩,by simp only;rw[List.length_set];exact y⟩;rcases List.mem_or_eq_of_mem_set D with h1|h1
   ·exact d.tx t h1
   ·rw[h1,J4 hi]
    refine⟨(d.tx _ (List.getElem_mem hi)).1,e,?_⟩
    show Rc.num (if r.kind=3 then r.next else a.2.1)
    split
    ·rename_i E
     exact(show Rc.num r.next from dT (r:={({r with prev:=(Fm x.s.txns i).last}:Rc.Rec)with lsn:=m.1.end_+1}) j E)
    ·exact e
theorem dU (s:Tx.St)(fs:List Fr)(k:Nat):(D2 s fs k).s.txns=s.txns∧(D2 s fs k).s.next=s.next:=by
 unfold D2
 split
 ·exact⟨rfl,rfl⟩
 ·split
  ·exact⟨rfl,rfl⟩
  ·split<;>exact⟨rfl,rfl⟩
theorem Vn (s:Tx.St)(fs:List Fr):(Bq s fs).1.s.txns=s.txns∧(Bq s fs).1.s.next=s.next:=by
 unfold Bq
 split
 ·exact⟨rfl,rfl⟩
 ·split
  ·exact⟨rfl,rfl⟩
  ·exact dU _ _ _
theorem kY {s:Tx.St}{fs:List Fr}{x:Px}(h:x.s.txns=s.txns∧x.s.next=s.next):(Hd s fs x).s.txns=s.txns∧(Hd s fs x).s.next=s.next:=by
 unfold Hd
 split
 ·exact h
 ·exact⟨rfl,rfl⟩
theorem P4 (s:Tx.St)(fs:List Fr)(p:Int):(Bj s fs p).1.s.txns=s.txns∧(Bj s fs p).1.s.next=s.next:=by
 unfold Bj
 split
 ·exact⟨rfl,rfl⟩
 ·split
  ·exact⟨rfl,rfl⟩
  ·split
   ·exact⟨rfl,rfl⟩
   ·split
    ·exact Vn s fs
    ·exact kY (Vn s fs)
theorem Wf.change {N n B:Nat}{s:Tx.St}{fs:List Fr}(h:Wf N n B s fs)(r:Rc.Rec)(D:ByteArray→ByteArray×Int)(k:∀ q,(D q).2=0→Bk (D q).1=true):Wf N n B (Cg s fs r D).s (Cg s fs r D).fs∧(Cg s fs r D).fs.length=fs.length:=by
 obtain⟨a,b,l,g⟩:=h.held r.Ad;have j:=(P4 s fs r.Ad).1;unfold Cg
 split
 ·exact⟨h,rfl⟩
 ·split
  ·exact⟨h,rfl⟩
  ·rename_i i m
   have c:=(List.findIdx?_eq_some_iff_getElem.1 m).1;generalize Bj s fs r.Ad=x at a b l g j ⊢
   split
   ·exact⟨a,b⟩
   ·rename_i o
    have d:x.1.e=0:=Classical.byContradiction fun f=>o f
    split
    ·exact⟨h,rfl⟩
    ·rename_i p
     exact h.zI a b (by omega) (by rw[j];exact c) r (k _ (Classical.byContradiction fun f=>p f)) (g d).2.1
structure xU (n:Nat) (fs:List Fr) (C:Nat→ByteArray):Prop where
 at_:∀ i (hi:i<fs.length),Full fs[i]→∃ p:Nat,p<n∧fs[i].Ad=(p:Int)∧fs[i].bytes=C p
 ds:∀ i j (hi:i<fs.length) (hj:j<fs.length),i≠j→Full fs[i]→Full fs[j]→fs[i].Ad≠fs[j].Ad
structure PQ (N n:Nat) (s:Tx.St) (fs:List Fr) (C:Nat→ByteArray):Prop where
 zl:s.zlog=(N:Int)
 zp:s.zpages=(n:Int)
 pw:Pw N (1+N+4*n) s.Az s.log
 fr:xU n fs C
 nm:∀ p,p<n→Lu (C p)
 dk:∀ p,p<n→¬ P3 fs p→Lay N s.Az p (C p)
theorem xU.set {n:Nat}{fs:List Fr}{C C':Nat→ByteArray}(h:xU n fs C)(k:Nat)(f:Fr)
 (t:Full f→∃ p:Nat,p<n∧f.Ad=(p:Int)∧f.bytes=C' p) (r:Full f→∀ j (hj:j<fs.length),j≠k→Full fs[j]→f.Ad≠fs[j].Ad)
 (hC:∀ j (hj:j<fs.length) (p:Nat),j≠k→Full fs[j]→fs[j].Ad=(p:Int)→C' p=C p):xU n (fs.set k f) C':=by
 refine⟨fun i m a=>?_,fun i j m hj g a d=>?_⟩
 ·rcases Gz fs k f i m with⟨_,e⟩|⟨u,b,e⟩
  ·rw[e]at a ⊢;exact t a
  ·rw[e]at a ⊢
   obtain⟨p,v,s,w⟩:=h.at_ i b a;exact⟨p,v,s,by rw[w,hC i b p u a s]⟩
 ·rcases Gz fs k f i m with⟨o,e⟩|⟨o,b,e⟩<;>rcases Gz fs k f j hj with⟨q,c⟩|⟨q,l,c⟩
  ·exact absurd (o.trans q.symm) g
  ·rw[e,c];rw[e]at a;rw[c]at d;exact r a j l q d
  ·rw[e,c];rw[e]at a;rw[c]at d;exact fun x=>r d i b o a x.symm
  ·rw[e,c];rw[e]at a;rw[c]at d;exact h.ds i j b l g a d
theorem PQ.same {N n:Nat}{s:Tx.St}{fs:List Fr}{C:Nat→ByteArray}(h:PQ N n s fs C){k:Nat}(hk:k<fs.length){f:Fr}(g:f.Ad=fs[k].Ad)(i:f.bytes=fs[k].bytes)(q:f.rc=fs[k].rc):PQ N n s (fs.set k f) C:=by
 have o:Full f→Full fs[k]:=fun d=>by unfold Full at d ⊢;rw[← i];exact d
 exact⟨h.zl,h.zp,h.pw,
  h.fr.set k f (fun d=>by rw[g,i];exact h.fr.at_ k hk (o d)) (fun d j r l m=>by rw[g];exact h.fr.ds k j hk r (fun e=>l e.symm) (o d) m) (fun _ _ _ _ _ _=>rfl),
  h.nm,fun p t u=>h.dk p t fun v=>u (v.set hk fun a b c=>⟨by unfold Full at a ⊢;rw[i];exact a,g.trans b,by rw[q];exact c⟩)⟩
theorem PQ.marks {N n:Nat}{s:Tx.St}{fs a:List Fr}{C:Nat→ByteArray}(h:PQ N n s fs C)(b:Ti fs a):PQ N n s a C:=by
 have r:=b.len;refine⟨h.zl,h.zp,h.pw,⟨fun i d c=>?_,fun i j d k f c g=>?_⟩,h.nm,fun p l m=>h.dk p l fun o=>m (o.marks b)⟩
 ·have e:=b.at_ i (by omega) d
  rw[e]at c ⊢;exact h.fr.at_ i (by omega) c
 ·have e:=b.at_ i (by omega) d
  have q:=b.at_ j (by omega) k;rw[e]at c ⊢;rw[q]at g ⊢;exact h.fr.ds i j (by omega) (by omega) f c g
theorem PQ.hand {N n:Nat}{s:Tx.St}{fs:List Fr}{C:Nat→ByteArray}(h:PQ N n s fs C)(x:Int):PQ N n {s with hand:=x} fs C:=⟨h.zl,h.zp,h.pw,h.fr,h.nm,h.dk⟩
theorem PQ.load {N n:Nat}{s:Tx.St}{fs:List Fr}{C:Nat→ByteArray}(h:PQ N n s fs C){k:Nat}(hk:k<fs.length){p:Nat}(d:p<n)(f:Full fs[k]→fs[k].rc=0)(b:∀ j (hj:j<fs.length),Full fs[j]→fs[j].Ad≠(p:Int)):PQ N n s (fs.set k ⟨(p:Int),C p,0,true,0⟩) C:=
 ⟨h.zl,h.zp,h.pw,
   h.fr.set k _ (fun _=>⟨p,d,rfl,rfl⟩) (fun _ j hj _ g e=>b j hj g e.symm) (fun _ _ _ _ _ _=>rfl),
   h.nm,fun q i l=>h.dk q i fun m=>l (m.set hk fun a _ c=>absurd (f a) c)⟩
theorem PQ.force {N n:Nat}{s:Tx.St}{fs:List Fr}{C:Nat→ByteArray}(h:PQ N n s fs C):(Lg.Bi s.Az s.log).2.2=0∧PQ N n {s with Az:=(Lg.Bi s.Az s.log).1,log:=(Lg.Bi s.Az s.log).2.1} fs C∧(Lg.Bi s.Az s.log).2.1.end_=s.log.end_:=by
 obtain⟨d2,g2,e,c,d,f⟩:=h.pw.force;rw[e];refine⟨rfl,⟨h.zl,h.zp,c,h.fr,h.nm,fun p g i=>?_⟩,d⟩;have b:Ga d2 (1+N+4*p)=Ga s.Az (1+N+4*p):=P2 fun j l _=>f j (by omega);rcases h.dk p g i with a|⟨a,k⟩
 ·exact .inl (b.trans a)
 ·exact .inr ⟨b.trans a,k⟩
theorem pY {N M:Nat}{d:Lg.Dk}{g:Lg.Lo}(h:Pw N M d g){a:Nat}{b:ByteArray}(c:b.size=512)(l:1+N≤a)(m:a+4≤M):Q6 d a b 4=(Nr d a b,0):=by
 obtain⟨n,o⟩:=h.write (Fi c (i:=0) (by omega)) l (by omega);obtain⟨p,q⟩:=o.write (Fi c (i:=1) (by omega)) (i:=a+1) (by omega) (by omega);obtain⟨r,s⟩:=q.write (Fi c (i:=2) (by omega)) (i:=a+2) (by omega) (by omega);obtain⟨t,u⟩:=s.write (Fi c (i:=3) (by omega)) (i:=a+3) (by omega) (by omega);have e:Q6 d a b 1=({d with sectors:=d.sectors.set a (Gq b 0)},0):=by
  rw[Mt (k:=0) rfl];exact n
 have f:Q6 d a b 2=({d with sectors:=(d.sectors.set a (Gq b 0)).set (a+1) (Gq b 1)},0):=by
  rw[Mt (k:=1) (by rw[e]),e];exact p
 have j:Q6 d a b 3=({d with sectors:=((d.sectors.set a (Gq b 0)).set (a+1) (Gq b 1)).set (a+2) (Gq b 2)},0):=by
  rw[Mt (k:=2) (by rw[f]),f];exact r
 rw[Mt (k:=3) (by rw[j]),j];exact t
theorem PQ.sec {N n:Nat}{s:Tx.St}{fs:List Fr}{C:Nat→ByteArray}(h:PQ N n s fs C)(p:Nat):Ev s (p:Int)=1+N+4*p:=by
 unfold Ev;rw[h.zl];omega
theorem PQ.put {N n:Nat}{s:Tx.St}{fs:List Fr}{C:Nat→ByteArray}(h:PQ N n s fs C){k:Nat}(hk:k<fs.length){p:Nat}(m:p<n)(c:fs[k].Ad=(p:Int)):
 PQ N n {s with Az:=Nr s.Az (1+N+4*p) (Eh (C p))} (fs.set k {fs[k]with rc:=0}) C:=by
 have i:=(Gv (h.nm p m).is).2.2.2;have o:=h.pw.len;refine⟨h.zl,h.zp,h.pw.Ad i (by omega) (by omega),
  h.fr.set k _ (fun d=>h.fr.at_ k hk d) (fun r j t f d=>h.fr.ds k j hk t (fun e=>f e.symm) r d) (fun _ _ _ _ _ _=>rfl),
  h.nm,fun q u v=>?_⟩
 by_cases a:q=p
 ·subst a
  exact .inl (gE i (by rw[o];omega))
 ·have l:=aB s.Az (1+N+4*p) (1+N+4*q) (Eh (C p)) (by omega)
  have w:¬ P3 fs q:=fun x=>v (x.set hk fun _ b _=>absurd (Int.ofNat.inj (b.symm.trans c)) a);rcases h.dk q u w with g|⟨g,y⟩
  ·exact .inl (l.trans g)
  ·exact .inr ⟨l.trans g,y⟩
structure Kp (s s':Tx.St):Prop where
 tx:s'.txns=s.txns
 nx:s'.next=s.next
 en:s'.log.end_=s.log.end_
 zf:s'.zframes=s.zframes
theorem Kp.refl (s:Tx.St):Kp s s:=⟨rfl,rfl,rfl,rfl⟩
theorem Kp.trans {s t u:Tx.St}(h:Kp s t)(k:Kp t u):Kp s u:=⟨k.tx.trans h.tx,k.nx.trans h.nx,k.en.trans h.en,k.zf.trans h.zf⟩
theorem PQ.flush {N n:Nat}{s:Tx.St}{fs:List Fr}{C:Nat→ByteArray}(h:PQ N n s fs C){k:Nat}(hk:k<fs.length)(i:fs[k].rc≠0→Full fs[k]):
 (D2 s fs k).e=0∧PQ N n (D2 s fs k).s (D2 s fs k).fs C∧Kp s (D2 s fs k).s∧Ng fs (D2 s fs k).fs∧(D2 s fs k).fs.length=fs.length∧(Dx (D2 s fs k).fs k).rc=0:=by
 by_cases b:fs[k].rc=0
 ·have e:D2 s fs k=⟨s,fs,0⟩:=by unfold D2;rw[Cu hk,if_pos b]
  rw[e];exact⟨rfl,h,Kp.refl s,Ng.refl fs,rfl,by rw[Cu hk];exact b⟩
 ·obtain⟨p,f,g,j⟩:=h.fr.at_ k hk (i b)
  obtain⟨f1,f2,f3⟩:=h.force;have c:=(Gv (h.nm p f).is).2.2.2;have l:=pY f2.pw (a:=1+N+4*p) c (by omega) (by omega);have d:=f2.put hk f g;have e:D2 s fs k=⟨{s with Az:=Nr (Lg.Bi s.Az s.log).1 (1+N+4*p) (Eh (C p)),log:=(Lg.Bi s.Az s.log).2.1},fs.set k {fs[k]with rc:=0},0⟩:=by
   unfold D2;rw[Cu hk,if_neg b,if_neg (fun m=>m f1),g,j,h.sec p];rw[l]
   rfl
  rw[e];exact⟨rfl,d,⟨rfl,rfl,f3,rfl⟩,Ng.set fs k hk _ rfl rfl,List.length_set,by simp only;rw[Cu (by rw[List.length_set];exact hk),List.getElem_set_self]⟩
theorem PQ.room {N n B:Nat}{s:Tx.St}{fs:List Fr}{C:Nat→ByteArray}(h:PQ N n s fs C)(f:Wf N n B s fs):
 ((Bq s fs).1.e=0∧PQ N n (Bq s fs).1.s (Bq s fs).1.fs C∧Kp s (Bq s fs).1.s∧Ng fs (Bq s fs).1.fs∧(Full (Dx (Bq s fs).1.fs (Bq s fs).2)→(Dx (Bq s fs).1.fs (Bq s fs).2).rc=0))∨(Bq s fs).1.e=18:=by
 have t:=f.nf;unfold Bq
 split
 ·rename_i k hk
  unfold Ik at hk;obtain⟨c,b,_⟩:=List.findIdx?_eq_some_iff_getElem.1 hk;refine .inl ⟨rfl,h,Kp.refl s,Ng.refl fs,fun d=>?_⟩;simp only at d;rw[Cu c]at d;exact absurd d (by simpa using b)
 ·split
  ·exact .inr rfl
  ·rename_i k a i
   obtain⟨c,b,_⟩:=Ky fs.length (by omega) _ _ fs fs k a rfl (Nat.mod_lt _ (by omega)) (Ti.refl fs) i;have j:=b.len;have l:a[k].rc≠0→Full a[k]:=fun g=>by
    have e:=b.at_ k c (by omega);rw[e]at g ⊢;exact(f.fr k c).rz g
   obtain⟨m,o,p,q,u,r⟩:=((h.hand (((k+1)%fs.length:Nat):Int)).marks b).flush (k:=k) (by omega) l;exact .inl ⟨m,o,(show Kp s {s with hand:=(((k+1)%fs.length:Nat):Int)}from⟨rfl,rfl,rfl,rfl⟩).trans p,(Ng.marks b).trans q j,fun _=>r⟩
theorem PQ.read {N n:Nat}{s:Tx.St}{fs:List Fr}{C:Nat→ByteArray}(h:PQ N n s fs C){p:Nat}(a:p<n)(c:¬ P3 fs p):Ew s (p:Int)=(C p,0):=by
 unfold Ew;rw[if_neg (by rw[h.pw.up];decide),h.sec p];rcases h.dk p a c with b|⟨b,d⟩
 ·rw[b]
  have e:=Gv (h.nm p a).is;rw[if_neg (Vd (h.nm p a).is),if_pos e.2.2.1,gD (h.nm p a)]
 ·rw[if_pos b,d];rfl
theorem PQ.held {N n B:Nat}{s:Tx.St}{fs:List Fr}{C:Nat→ByteArray}(h:PQ N n s fs C)(f:Wf N n B s fs){p:Nat}(g:p<n):
 ((Bj s fs (p:Int)).1.e=0∧PQ N n (Bj s fs (p:Int)).1.s (Bj s fs (p:Int)).1.fs C∧Kp s (Bj s fs (p:Int)).1.s∧(Dx (Bj s fs (p:Int)).1.fs (Bj s fs (p:Int)).2).bytes=C p)∨Bj s fs (p:Int)=(⟨s,fs,18⟩,0):=by
 have y:=h.zp;have d:Oj s (p:Int):=⟨by omega,by omega⟩
 cases b:Xy fs (p:Int)with
 |some k=>
  obtain⟨hk,m,o⟩:=pX b;have e:Bj s fs (p:Int)=(⟨s,fs.set k {fs[k]with mark:=true},0⟩,k):=by
   unfold Bj;rw[if_neg (fun a=>a d),b];simp only;rw[Cu hk]
  rw[e];refine .inl ⟨rfl,h.same hk rfl rfl rfl,Kp.refl s,?_⟩;simp only;rw[Cu (by rw[List.length_set];exact hk),List.getElem_set_self];obtain⟨q,_,r,t⟩:=h.fr.at_ k hk m;have:p=q:=Int.ofNat.inj (o.symm.trans r);subst this;exact t
 |none=>
  have c:=dS b;have i:=h.read g (Tj c);obtain⟨z,j,u⟩:=f.room;rcases h.room f with⟨r1,v,w,x,l⟩|r1
  ·have e:Bj s fs (p:Int)=(⟨(Bq s fs).1.s,(Bq s fs).1.fs.set (Bq s fs).2 ⟨(p:Int),C p,0,true,0⟩,0⟩,(Bq s fs).2):=by
    unfold Bj;rw[if_neg (fun a=>a d),b];simp only;rw[i,if_neg (fun a=>a rfl),if_pos r1]
   rw[e];have hk:(Bq s fs).2<(Bq s fs).1.fs.length:=(by rw[j];exact u);rw[Cu hk]at l;refine .inl ⟨rfl,v.load hk g l (x.none_ j c),w,?_⟩;simp only;rw[Cu (by rw[List.length_set];exact hk),List.getElem_set_self]
  ·right
   unfold Bj;rw[if_neg (fun a=>a d),b];simp only;rw[i,if_neg (fun a=>a rfl),if_neg (by rw[r1];decide)];unfold Hd;rw[r1,if_neg (by decide)]
theorem Pw.app {N M:Nat}{d:Lg.Dk}{g:Lg.Lo}(h:Pw N M d g){r:Rc.Rec}(a:(Lg.As g r).2.2=0):Pw N M d (Lg.As g r).1:=by
 obtain⟨b,c,e,f,i,l,m,j⟩:=h;rcases j.append r with e1|e1|⟨_,k⟩
 ·rw[e1]at a;exact absurd a (by show ¬ (1:Int)=0;decide)
 ·rw[e1]at a;exact absurd a (by show ¬ (18:Int)=0;decide)
 ·exact⟨b,c,e,f,i,_,_,k⟩
theorem PQ.yG {N n:Nat}{s:Tx.St}{fs:List Fr}{C:Nat→ByteArray}(h:PQ N n s fs C){g:Lg.Lo}(a:Pw N (1+N+4*n) s.Az g)(b:List Rc.Be):PQ N n {s with log:=g,txns:=b} fs C:=⟨h.zl,h.zp,a,h.fr,h.nm,h.dk⟩
theorem PQ.Uk {N n:Nat}{s:Tx.St}{fs:List Fr}{C:Nat→ByteArray}(h:PQ N n s fs C){k:Nat}(hk:k<fs.length){p:Nat}(m:Full fs[k])(a:fs[k].Ad=(p:Int)){f:Fr}(v:Lu f.bytes)(o:f.rc≠0)(c:f.Ad=fs[k].Ad):
 PQ N n s (fs.set k f) (fun q=>if q=p then f.bytes else C q):=by
 have r:Full f:=fun e=>by have:=v.size;rw[e]at this;exact absurd this (by decide)
 obtain⟨p',t,x,z⟩:=h.fr.at_ k hk m;have:p=p':=Int.ofNat.inj (a.symm.trans x);subst this;refine⟨h.zl,h.zp,h.pw,
  h.fr.set k f (fun _=>⟨p,t,c.trans a,by rw[if_pos rfl]⟩) (fun _ j u d g=>by rw[c];exact h.fr.ds k j hk u (fun e=>d e.symm) m g) (fun j u q d g i=>if_neg fun e=>by
   subst e;exact h.fr.ds k j hk u (fun e=>d e.symm) m g (a.trans i.symm)),fun q i=>?_,fun q i w=>?_⟩
 ·by_cases e:q=p
  ·rw[if_pos e];exact v
  ·rw[if_neg e];exact h.nm q i
 ·have l:q≠p:=fun e=>w (by
   subst e;exact⟨k,by rw[List.length_set];exact hk,by rw[List.getElem_set_self];exact⟨r,c.trans a,o⟩⟩)
  rw[if_neg l];exact h.dk q i fun y=>w (y.set hk fun _ b _=>absurd (Int.ofNat.inj (b.symm.trans a)) l)
theorem PQ.change {N n B:Nat}{s:Tx.St}{fs:List Fr}{C:Nat→ByteArray}(h:PQ N n s fs C)(G:Wf N n B s fs)(r:Rc.Rec)(D:ByteArray→ByteArray×Int)(Z:∀ q,(D q).2=0→Bk (D q).1=true):
 ((Cg s fs r D).e=0∧∃ (p i:Nat) (l:Int),p<n∧r.Ad=(p:Int)∧i<s.txns.length∧(Fm s.txns i).txn=r.txn∧Rc.num l∧(D (C p)).2=0∧(Cg s fs r D).s.txns=s.txns.set i {Fm s.txns i with last:=l,next:=if r.kind=3 then r.next else l}∧
   PQ N n (Cg s fs r D).s (Cg s fs r D).fs (fun q=>if q=p then Bl (D (C p)).1 l else C q))∨
 (¬ (Cg s fs r D).e=0∧(Cg s fs r D).s=s∧(Cg s fs r D).fs=fs):=by
 have hz:=h.zp;have hN:=G.n1.2.2
 by_cases z:(r.kind=2∨r.kind=3)∧Oj s r.Ad
 ·have hp:=z.2
  unfold Oj at hp;obtain⟨p,o⟩:∃ p:Nat,r.Ad=(p:Int):=⟨r.Ad.toNat,by omega⟩;have t:p<n:=by omega
  obtain⟨H,rv,rt,A,rp,E,I,ro,J,K,L,d,g⟩:=r;simp only at z o;subst o;unfold Cg;rw[if_neg (fun c=>c z)];simp only
  cases hi:s.txns.findIdx? (fun a=>decide (a.txn=rt))with
  |none=>exact .inr ⟨by show ¬ (21:Int)=0;decide,rfl,rfl⟩
  |some i=>
   obtain⟨u,M,_⟩:=List.findIdx?_eq_some_iff_getElem.1 hi;have O:(Fm s.txns i).txn=rt:=(by rw[J4 u];simpa using M);obtain⟨R,x2,x3,S⟩:=G.held (p:Int);have T:=P4 s fs (p:Int);have U:=h.held G t;generalize Bj s fs (p:Int)=x at R x2 x3 S T U ⊢;simp only;rcases U with⟨y1,P,y3,y4⟩|y1
   ·rw[if_neg (fun c=>c y1),y4]
    by_cases v:(D (C p)).2=0
    ·rw[if_neg (fun c=>c v)]
     have V:=Z _ v;obtain⟨b,w⟩:∃ b,(D (C p)).1=b:=⟨_,rfl⟩;rw[w]at V ⊢;have hk:x.2<x.1.fs.length:=(by omega);obtain⟨_,W,X⟩:=S y1;rw[Cu hk]at W X;have j:=R.low;have y:¬ (Fl x.1.s (Dx x.1.fs x.2) (p:Int)).2.2=0∨((Fl x.1.s (Dx x.1.fs x.2) (p:Int)).2.2=0∧(Fl x.1.s (Dx x.1.fs x.2) (p:Int)).2.1≠0∧Pw N (1+N+4*n) x.1.s.Az (Fl x.1.s (Dx x.1.fs x.2) (p:Int)).1∧aG N (Fl x.1.s (Dx x.1.fs x.2) (p:Int)).1):=by
      unfold Fl
      split
      ·by_cases k:(Lg.As x.1.s.log (Pc (p:Int) (Dx x.1.fs x.2).bytes)).2.2=0
       ·exact .inr ⟨k,by rw[(Vm k).2];have:=j.e0;omega,Pw.app P.pw k,j.append _⟩
       ·exact .inl k
      ·rename_i k
       exact .inr ⟨rfl,k,P.pw,j⟩
     unfold Tn;simp only;generalize Fl x.1.s (Dx x.1.fs x.2) (p:Int)=m at y ⊢;rcases y with y|⟨m1,m2,m3,m4⟩
     ·rw[if_pos y]
      exact .inr ⟨y,rfl,rfl⟩
     ·rw[if_neg (fun c=>c m1),T.1]
      have Y:=Pw.app m3 (r:=⟨H,(Fm s.txns i).last,rt,A,(p:Int),E,I,ro,J,K,L,d,g⟩);have c:=To m4 hN ⟨H,(Fm s.txns i).last,rt,A,(p:Int),E,I,ro,J,K,L,d,g⟩;generalize Lg.As m.1 ⟨H,(Fm s.txns i).last,rt,A,(p:Int),E,I,ro,J,K,L,d,g⟩=a at Y c ⊢
      by_cases F:a.2.2=0
      ·rw[if_neg (fun c=>c F)]
       refine .inl ⟨rfl,p,i,a.2.1,t,rfl,u,O,c,v,rfl,?_⟩;have Q:=P.yG (Y F) (s.txns.set i {Fm s.txns i with last:=a.2.1,next:=if A=3 then E else a.2.1});have hq:=Q.Uk hk (f:=⟨(Dx x.1.fs x.2).Ad,Bl b a.2.1,(Dx x.1.fs x.2).pins,true,m.2.1⟩) W X (by
        have h9:=(Pb V (l:=a.2.1.toNat) (by have:=c.2;omega)).1
        rwa[show((a.2.1.toNat:Nat):Int)=a.2.1 from by have:=c.1;omega]at h9) m2 (by show(Dx x.1.fs x.2).Ad=_;rw[Cu hk])
       rw[w];exact hq
      ·rw[if_pos F]
       exact .inr ⟨F,rfl,rfl⟩
    ·rw[if_pos v]
     exact .inr ⟨v,rfl,rfl⟩
   ·rw[y1,if_pos (by show ¬ (18:Int)=0;decide)]
    exact .inr ⟨by show ¬ (18:Int)=0;decide,rfl,rfl⟩
 ·unfold Cg
  rw[if_pos z];exact .inr ⟨by show ¬ (1:Int)=0;decide,rfl,rfl⟩
def NP (fs:List Fr):Prop:=∀ x∈fs,x.pins≤0
theorem NP.at_ {fs:List Fr}(h:NP fs){k:Nat}(hk:k<fs.length):fs[k].pins≤0:=h _ (List.getElem_mem hk)
theorem NP.set {fs:List Fr}(h:NP fs)(k:Nat){f:Fr}(a:f.pins≤0):NP (fs.set k f):=fun x b=>by
 rcases List.mem_or_eq_of_mem_set b with h1|h1
 ·exact h x h1
 ·rw[h1];exact a
theorem NP.marks {fs fs':List Fr}(h:NP fs)(a:Ti fs fs'):NP fs':=fun x b=>by
 obtain⟨i,c,rfl⟩:=List.getElem_of_mem b;have d:=a.len;rw[a.at_ i (by omega) c];exact h.at_ (k:=i) (by omega)
theorem aH (n:Nat):∀ (j a:Nat) (fs:List Fr),fs.length=n→a<n→NP fs→fs.countP (·.mark)<j→dP n j a fs≠none
 |0,_,_,_,_,_,h=>absurd h (by omega)
 |j+1,a,fs,hl,ha,hp,hc=>by
  have hk:a<fs.length:=by omega
  have hp0:=hp.at_ hk;unfold dP;rw[Cu hk,if_neg (by omega)]
  split
  ·rename_i hm
   have h1:0<fs.countP (·.mark):=List.countP_pos_iff.2 ⟨fs[a],List.getElem_mem hk,hm⟩;refine aH n j _ _ (by rw[List.length_set];exact hl) (Nat.mod_lt _ (by omega)) (hp.set _ hp0) ?_;rw[List.countP_set hk,if_pos hm]
   simp
   omega
  ·exact fun h=>by cases h
section
variable {N n B : Nat} {s : Tx.St} {fs : List Fr}
theorem pZ (d:Wf N n B s fs)(i:Pw N (1+N+4*n) s.Az s.log)(c:NP fs){k:Nat}(hk:k<fs.length):(D2 s fs k).e=0∧Pw N (1+N+4*n) (D2 s fs k).s.Az (D2 s fs k).s.log∧NP (D2 s fs k).fs:=by
 have b:=d.fr k hk;obtain⟨j,q⟩:=Vl d b.pg;have o:=d.zl;have p:=b.pg;unfold D2;rw[Cu hk]
 split
 ·exact⟨rfl,i,c⟩
 ·rename_i f
  have l:=(Gv (b.is (b.rz f))).2.2.2;obtain⟨d2,g2,e,m,_⟩:=i.force;rw[e];simp only;rw[if_neg (fun g=>g trivial)];have h:=pY m (a:=Ev s fs[k].Ad) l (by omega) j;rw[h];simp only;rw[if_neg (fun g=>g trivial)];exact⟨rfl,m.Ad l (by omega) j,c.set _ (c.at_ hk)⟩
theorem tC (f:Wf N n B s fs)(g:Pw N (1+N+4*n) s.Az s.log)(a:NP fs):(Bq s fs).1.e=0∧Pw N (1+N+4*n) (Bq s fs).1.s.Az (Bq s fs).1.s.log∧NP (Bq s fs).1.fs:=by
 have h:=f.nf;unfold Bq
 split
 ·exact⟨rfl,g,a⟩
 ·split
  ·rename_i b
   exact absurd b (aH _ _ _ _ rfl (Nat.mod_lt _ (by omega)) a (Nat.lt_of_le_of_lt List.countP_le_length (by omega)))
  ·rename_i k c b
   obtain⟨i,d,_⟩:=Ky fs.length (by omega) _ _ fs fs k c rfl (Nat.mod_lt _ (by omega)) (Ti.refl fs) b;have j:=d.len;have l:(k+1)%fs.length<fs.length:=Nat.mod_lt _ (by omega);exact pZ (s:={s with hand:=(((k+1)%fs.length:Nat):Int)}) ((f.hand (x:=(((k+1)%fs.length:Nat):Int)) (by omega)).marks d) g (a.marks d) (by omega)
end
end Go.Proofs.YtmfkhdhnbkambaaGreatDoor
