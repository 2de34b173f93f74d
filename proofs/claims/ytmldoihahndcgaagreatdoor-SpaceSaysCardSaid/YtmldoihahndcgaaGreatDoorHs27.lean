import Derived.Test.YtmldoihahndcgaaGreatDoorHs00
import Derived.Test.YtmldoihahndcgaaGreatDoorHs06
import Derived.Test.YtmldoihahndcgaaGreatDoorHs05
set_option maxRecDepth 100000
set_option maxHeartbeats 16000000
set_option linter.unusedSimpArgs false
namespace Go.Proofs.YtmldoihahndcgaaGreatDoor
open Go.RowKit
theorem oI:(Tryz.prog.info? 9).map (fun i=>(i.zero,i.size,i.bytes))=some (some (.string ⟨#[]⟩),1,16):=by kernel_rfl
def Dv (b:ByteArray)(n m:Nat):List Value:=List.replicate m (.string b)++List.replicate (n-m) (.string ⟨#[]⟩)
theorem Ni (b:ByteArray)(n m:Nat)(h:m≤n):(Dv b n m).length=n:=by unfold Dv;simp;omega
theorem kJ (b:ByteArray)(n m j:Nat)(a:j<m):(Dv b n m).toArray[j]? =some (.string b):=by
 unfold Dv;rw[List.getElem?_toArray,List.getElem?_append_left (by simpa using a),List.getElem?_replicate,if_pos a]
theorem Qc (b:ByteArray)(n m k:Nat)(h:m+k≤n):splice (Dv b n m) m (List.replicate k (.string b))=Dv b n (m+k):=by
 unfold splice Dv;rw[List.take_left' (by simp),List.drop_append,List.length_replicate,List.length_replicate,List.drop_of_length_le (by simp),List.nil_append,← List.append_assoc,List.replicate_append_replicate,List.drop_replicate]
 congr 2
 omega
theorem kK (n:Nat)(e:n≤4096)(W:World):(Instr.makeSlice 26 (.int .i64 (n:Int)) (.int .i64 (n:Int))).run Tryz.prog W= .ok (.slice (some ⟨W.heap.size,0,none⟩) n n) (W.alloc (.cells (madeCells #[Value.string ⟨#[]⟩] n) 9)):=by
 obtain⟨i0,d,a,b,c⟩:=info_parts oI;have h:=run_make (P:=Tryz.prog) W 26 9 i0 (.string ⟨#[]⟩) Q3 d a .i64 .i64 n n (by omega) (by omega) (by rw[c];omega) (by omega);rw[b,Int.toNat_natCast,Nat.mul_one]at h;exact h
theorem kL (b:ByteArray)(n:Nat):madeCells #[Value.string ⟨#[]⟩] n=(Dv b n 0).toArray:=by
 unfold madeCells Dv
 apply Array.ext_getElem?
 intro i
 by_cases a:i<n
 ·simp[a,Nat.mod_one]
 ·simp[a]
theorem aF (b:ByteArray)(n:Nat)(V:1≤n)(X:n≤4000)(g0:Nat)(w:World)(N:w.heap[g0]? =some (.cells #[b] 9 (0,0))):
 Cq 133 #[.slice (some ⟨g0,0,none⟩) 1 1,.int .i64 (n:Int)] w fun e w'=>∃ v,e= .returned v∧En I1 1 9 w.heap.size w' v (List.replicate n b)∧Bw w w':=by
 have r:=Hq (fun W=>show Cq 197 #[.int .u64 1,.int .u64 (n:Int)] W fun e w'=>e= .returned (.tuple #[.int .u64 0,.int .u64 (n:Int)])∧w'=W from by
  have h:=Tryz.bits_Mul 1 n (by omega) (by omega) W;rw[show 1*n/18446744073709551616=0 by omega,show 1*n%18446744073709551616=n by omega]at h;exact h)
 have s:=fun W=>kK n (by omega) W;rw[kL b n]at s;have Y:¬ (n:Int)<0:=by omega
 have O:=Hq N;have Z:¬ (9223372036854775807:Int)<(n:Int):=by omega
 have a1:IntKind.u64.wrap (n:Int)=(n:Int):=IntWalk.u64_in _ (by omega);have c:IntKind.i64.wrap (n:Int)=(n:Int):=IntWalk.i64_in _ (by omega);clear N;go_enter Tryz.func133,Tryz.ntmps133
 go_upto_region 7 with(go_at_call 197;(with_reducible refine(r.out _).mono ?_);rintro e w1 ⟨rfl,t⟩;have F:=t.symm;subst F;clear t)
 have u:=Hq (Ae O.out (Ab w (.cells (Dv b n 0).toArray 9)));have x:=Hq (show(Tryz.prog.info? 9).map (·.size)=some 1 from by kernel_rfl);have d:splice (Dv b n 0) 0 [.string b]=Dv b n 1:=Qc b n 0 1 (by omega);obtain⟨g,E⟩:=ex w.heap.size;clear s r O;have G:∀ ty,(Builtin.copy_ #[26,26] ty #[.slice (some ⟨w.heap.size,0,none⟩) n n,.slice (some ⟨g0,0,none⟩) 1 1]).run Tryz.prog (w.alloc (.cells (Dv b n 0).toArray 9))= .ok (.int .i64 1) ((w.alloc (.cells (Dv b n 0).toArray 9)).setRow w.heap.size (Dv b n 1).toArray):=fun ty=>by
  have h:=run_copy_row (P:=Tryz.prog) (w.alloc (.cells (Dv b n 0).toArray 9)) 26 26 ty 9 w.heap.size 0 n n ⟨g0,0,none⟩ 1 1 (Dv b n 0).toArray 9 [.string b] Q3 x.out (heap_alloc_new w _) (by show 1=min 1 n;omega) (fun j v q=>by
   have f:j=0:=(by have:=(List.getElem?_eq_some_iff.1 q).1;simpa using this);subst f;rw[Addr.add_mid,Aa u.out];simpa using q) (by have:=Ni b n 0 (by omega);simp[this];omega) (fun v H=>by rw[List.mem_singleton.1 H];rfl)
  rw[← d];unfold splice;simp only[List.append_assoc]at h;exact h
 have l:Hid (((w.alloc (.cells (Dv b n 0).toArray 9)).setRow w.heap.size (Dv b n 1).toArray).heap[g]? =some (.cells (Dv b n 1).toArray 9 (0,0))):=Hq (by rw[E];exact setRow_heap _ _ _ _ _ _ (heap_alloc_new w _));have o:Bw w ((w.alloc (.cells (Dv b n 0).toArray 9)).setRow w.heap.size (Dv b n 1).toArray):=below_setRow (Ab w _) (Nat.le_refl _) _;have Q:=Hq E
 go_upto_block 0 with fail
 obtain⟨w2,c⟩:=ex ((w.alloc (.cells (Dv b n 0).toArray 9)).setRow w.heap.size (Dv b n 1).toArray);rw[← c]at l o;rw[← c,← E];clear d E u G c;go_wp2_with fail
 go_loopw [8] (fun i wr=>∃ m:Nat,i= .int .i64 (m:Int)∧1≤m∧m≤n∧Hid (wr.heap[g]? =some (.cells (Dv b n m).toArray 9 (0,0)))∧Bw w wr) (fun i _=>n-(intOf i).toNat)
 case atStart=>exact⟨1,rfl,Nat.le_refl _,V,l,o⟩
 case round=>
  obtain⟨m,rfl,y,z,p,A⟩:=hrel;have R:=Hq A;clear A l o
  by_cases a6:m<n
  ·have T:(m:Int)<(n:Int):=by omega
   have I:¬ n=m:=(by omega);have a7:(m:Int)≤(n:Int):=(by omega);have a8:(0:Int)≤(m:Int):=(by omega);obtain⟨k,hk⟩:=ex (min m (n-m));have B:=Hq hk;have aa:IntKind.i64.wrap ((m:Int)+(k:Int))=((m+k:Nat):Int):=(by rw[Int.natCast_add];exact IntWalk.i64_in _ (by omega));have J:=Hq (Qc b n m k (by omega));have L:=Hq z;have C:=Hq y;clear hk y z;go_upto_region 9 with fail;refine Gd (S:=(fun _=>True)) (fun a=>?_) (by trivial);refine Au 0 ?_;refine Au 1 ?_;refine Au 2 ?_;refine Au 3 ?_;refine Au 4 ?_;refine Au 5 ?_;refine Au 6 ?_;refine Ch 7 fun K U=>?_;refine step_copy_splice rfl (.tmp 41) (.tmp 44) 26 26 rfl 9 Q3 x.out (some ⟨g,m,none⟩) (some ⟨g,0,none⟩) (n-m) (n-m) m n rfl rfl g m (Dv b n m) 9 p.out (List.replicate k (.string b)) (by rw[List.length_replicate];exact B.out) (fun _=>⟨rfl,_,rfl,fun j v q=>by(have f:j<k:=by(have:=(List.getElem?_eq_some_iff.1 q).1;simpa using this));rw[Addr.add_mid,Aa (show wr.drew.heap[g]? =_ from p.out)];(have:=B.out);rw[kJ b n m (0+j) (by omega)];rw[List.getElem?_replicate,if_pos f]at q;exact q⟩) (by rw[Ni _ _ _ L.out,List.length_replicate];have:=B.out;omega) (fun v H=>by rw[(List.mem_replicate.1 H).2];rfl) w.heap.size w R.out.drew (by rw[Q.out];exact Nat.le_refl _) ?_;intro w5 D M;rw[J.out]at D;rw[List.length_replicate];refine Bq U (fun a=>?_) (by trivial);clear U K;refine Au 8 ?_;refine Au 9 ?_;refine wpAnyH_done Kr ?_ _;clear a;go_wp2_with fail;go_roundw
   case rel=>exact⟨m+k,(by go_num),by have:=C.out;omega,by have:=B.out;omega,D,M⟩
   case measure=>have:=B.out;have:=C.out;simp[intOf];omega
  ·obtain rfl:m=n:=by omega
   have I:¬ (m:Int)<(m:Int):=(by omega);have HF:=Hq (show En I1 1 9 w.heap.size wr (.slice (some ⟨g,0,none⟩) m m) (List.replicate m b)from by
    unfold En;rw[List.length_replicate];refine⟨by rw[Cc N5,List.length_replicate],.inr ⟨g,m,_,rfl,by rw[Q.out];exact Nat.le_refl _,p.out,Nat.le_refl _,Nat.le_trans X (by decide),by rw[← Array.length_toList];simp[Ni],?_⟩⟩;rw[J3];unfold Dv
    simp)
   go_wp2_with fail;go_ret;exact⟨_,rfl,HF.out,R.out⟩
def Qx (d:Lg.Dk)(w:World)(e:Ending)(w':World):Prop:=
 ∃ A c,e= .returned (.tuple #[Cv d A c,()])∧Ca w' d A c∧Cp w.heap.size w' 9 A∧Bw w w'
theorem oJ (n:Nat)(y:1≤n)(B:n≤4000)(w:World):
 Cq 56 #[.int .i64 (n:Int)] w (Qx (Lg.K6 n) w):=by
 have r:(⟨(Go.Lib.repeatL (⟨#[0]⟩:ByteArray).data.toList 128).toArray⟩:ByteArray)=Lg.Cf:=Lg.Jg 128;have s:=Hq (fun W=>show Cr 132 #[.string ⟨#[0]⟩,.int .i64 128] W (.string Lg.Cf) from by
  have h:=Tryz.strings_Repeat ⟨#[0]⟩ 128 W (by omega) (show(⟨#[0]⟩:ByteArray).size*128≤140737488355328 from(by show 1*128≤_;omega));rw[r]at h;exact h)
 clear r;have t:=Hq (fun g W h=>aF Lg.Cf n y B g W h);have l:=Hq (fun A c w' (C:Reads w' A c n ((List.replicate n Lg.Cf).flatMap I1)) (f:Cp w.heap.size w' 9 A) (D:Bw w w')=>show Qx (Lg.K6 n) w (.returned (.tuple #[.agg #[.slice A n c,.int .i64 (-1),false],()])) w' from by
  refine⟨A,c,?_,⟨?_,?_⟩,f,D⟩
  ·unfold Cv Lg.K6;simp
  ·unfold Lg.K6;simpa using C
  ·unfold Lg.K6;simp;omega)
 generalize Lg.Cf=z at s t l;generalize Qx (Lg.K6 n) w=Q at l ⊢;have E:¬ (n:Int)<1:=by omega
 have F:¬ 65536<(n:Int):=by omega
 go_enter Tryz.func56,Tryz.ntmps56;go_upto_region 1 with fail;have i:=aI w #['s',(),false] 28;obtain⟨H,b⟩:=Ee i;rw[← b]at i ⊢;clear b
 go_upto_region 4 with(go_at_call 132;(with_reducible refine(s.out _).mono ?_);rintro e j ⟨rfl,d⟩)
 have H1:=Hq (i.out.step (Ak (o:=.cells #[z] 9) d));have G:=Hq (heap_alloc_new j (.cells #[z] 9));have m:=Hq (t.out j.heap.size (j.alloc (.cells #[z] 9)) G.out)
 go_wp2_with(first
  |(go_at_call 133;(with_reducible refine m.out.mono ?_);rintro e I ⟨v,rfl,u,p⟩;obtain⟨A,c,x⟩:=Kh u;rw[List.length_replicate]at x;subst x;have k:=Hq (H1.out.step p))
  |with_reducible refine lS #[.slice A n c,.int .i64 (-1),false] k.out.Ai ?_)
 refine rT2 () k.out.Ai Cu ?_;have a:=u;unfold En at a;rw[List.length_replicate]at a;have q:w.heap.size≤(j.alloc (.cells #[z] 9)).heap.size:=by simp;have:=d.size;have:=i.out.below.size;omega
 have f:=Cp.own a;exact l.out A c _ (f.Dx (Dr a) k.out.Ai (by decide) _) ((f.row _ _).mono q) (by have h:=(k.out.row 0 #[.slice A n c,.int .i64 (-1),false] _ rfl).below;simpa using h)
def U8 (x:Tx.St×Int)(p:SP)(w:World)(e:Ending)(w':World):Prop:=
 ∃ p':SP,e= .returned (.tuple #[Ag x.1 p',x.2])∧Eu w' x.1 p'∧(p'.F=p.F∧p'.fn=p.fn∧p'.fc=p.fc)∧Bw w w'
abbrev dQ (lsn prev txn kind next:Int):Rc.Rec:=⟨lsn,prev,txn,kind,0,next,0,Rc.Jr,0,0,Rc.Cm,[],[]⟩
theorem dR (s:Tx.St)(p:SP)(j:Tx.Y4 s)(af:s.txns.length≤800000)(b prev a kind next:Int)(w:World)(h:Eu w s p):
 Cq 134 #[Ag s p,.agg (Ct b prev a kind 0 next 0 0 0 ⟨#[]⟩ ⟨#[]⟩ 0 0 ⟨#[]⟩ 0 0 (.slice none 0 0) (.slice none 0 0))] w (U8 (Tx.J4 s (dQ b prev a kind next)) p w):=by
 have N:=Hq (fun W=>R2 s.log j.e0 (by have:=j.e1;omega) (by have:=j.n0;omega) (by have:=j.n1;omega) (by have:=j.t0;have:=j.e1;omega) (dQ b prev a kind next) none none 0 0 W (R7 _ _ rfl rfl));have HS:=Hq h;have a6:∃ x,x=Tx.J4 s (dQ b prev a kind next)∧((Lg.Aw s.log (dQ b prev a kind next)).2.2=0→x=({s with log:=(Lg.Aw s.log (dQ b prev a kind next)).1,txns:=Tx.E3 s.txns (dQ (Lg.Aw s.log (dQ b prev a kind next)).2.1 prev a kind next)},0))∧(¬ (Lg.Aw s.log (dQ b prev a kind next)).2.2=0→x=(s,(Lg.Aw s.log (dQ b prev a kind next)).2.2)):=⟨_,rfl,(fun h0=>by unfold Tx.J4;rw[if_pos h0]),(fun h0=>by unfold Tx.J4;rw[if_neg h0])⟩;obtain⟨x,hx,q,r⟩:=a6;rw[← hx];clear hx;generalize Lg.Aw s.log (dQ b prev a kind next)=o at N q r;obtain⟨⟨d,f,ge,gs,gt⟩,n,e⟩:=o;simp only at q r;have t:=Hq (fun W (j:Bw w W)=>iM s.txns (by omega) p.T p.tc (dQ n prev a kind next) none none 0 0 0 0 W (h.tx.below j));clear h j
 by_cases he:e=0
 ·subst he
  have HX:=Hq (q rfl);clear q r;have K:=Hq (fun(v:Option Addr) (y:Nat) w' (hs:Eu w' {s with log:=⟨d,f,ge,gs,gt⟩,txns:=Tx.E3 s.txns (dQ n prev a kind next)} ⟨p.A,p.c,p.F,p.fn,p.fc,v,y⟩) (j:Bw w w')=>show U8 x p w (.returned (.tuple #[Ag {s with log:=⟨d,f,ge,gs,gt⟩,txns:=Tx.E3 s.txns (dQ n prev a kind next)} ⟨p.A,p.c,p.F,p.fn,p.fc,v,y⟩,()])) w' from by rw[HX.out];exact⟨_,rfl,hs,⟨rfl,rfl,rfl⟩,j⟩);generalize U8 x p w=Q at K ⊢;have ag:=Tx.iH s.txns (dQ n prev a kind next);generalize Tx.E3 s.txns (dQ n prev a kind next)=ts2 at t K ag;obtain⟨z,B,C,⟨L,D,E⟩,⟨fr,ln,en,sf,tl⟩,G,O,H⟩:=s;obtain⟨A,c,I,fn,J,P,R⟩:=p;dsimp only[Ag,D7,Dz,Kv,Rc.Jr,Rc.Cm,List.length_nil]at N t K ⊢;clear HX;go_enter Tryz.func134,Tryz.ntmps134;go_upto_region 1 with fail;have k:=Q6 w #[z,B,C,.slice A L.length c,D,E,fr,ln,en,sf,tl,.slice I fn J,G,.slice P O.length R,H] 36 (Ct b prev a kind 0 next 0 0 0 ⟨#[]⟩ ⟨#[]⟩ 0 0 ⟨#[]⟩ 0 0 (.slice none 0 0) (.slice none 0 0)) 88 #[(),(),(),'s',(),false,(),(),(),(),"",'s',(),'s',()] 36;obtain⟨W0,u⟩:=Ee k;rw[← u]at k ⊢;clear u
  go_upto_region 2 with(first
   |with_reducible refine lP #[fr,ln,en,sf,tl] k.out.Ai Fi ?_
   |with_reducible refine lL k.out.Am Da ?_
   |(go_at_call 201;(with_reducible refine(N.out _).mono ?_);rintro e w1 ⟨l,m⟩;dsimp only[Kv]at l;subst l)
   |with_reducible refine sN #[d,f,ge,gs,gt] ?_)
  have H1:=Hq (k.out.step (Ak (o:=.cells #[d,f,ge,gs,gt] 30) m));have HG:=Hq (heap_alloc_new w1 (.cells #[d,f,ge,gs,gt] 30));have ah:w.heap.size+3≤w1.heap.size:=Nat.le_trans (k.out.lt (i:=2) (by simp)) m.size;obtain⟨gb,S⟩:=ex w1.heap.size;obtain⟨W1,g⟩:=ex (w1.alloc (.cells #[d,f,ge,gs,gt] 30));rw[← S]at HG ah;rw[← g]at H1 HG;rw[← g,← S];clear S g m k N;have ai:=Aa H1.out.Am;have aj:=Ap H1.out.Am;go_upto_region 5 with fail;have H2:=Hq (H1.out.set 1 0 (.int .i64 n) _ rfl);have U:=Hq (show(W1.setCell ⟨w.heap.size+1,0,none⟩ (.int .i64 n)).heap[gb]? =some (.cells #[d,f,ge,gs,gt] 30 (0,0))from(Below.heap_setCell _ _ _ _ (by show gb≠w.heap.size+1;omega)).trans HG.out);obtain⟨W2,V⟩:=ex (W1.setCell ⟨w.heap.size+1,0,none⟩ (.int .i64 n));rw[← V]at H2 U;rw[← V];clear V ai aj H1 HG
  go_upto_region 6 with(first
   |with_reducible refine lL U.out Fi ?_
   |with_reducible refine lU #[d,f,ge,gs,gt] #[z,B,C,.slice A L.length c,D,E,d,f,ge,gs,gt,.slice I fn J,G,.slice P O.length R,H] H2.out.Ai ?_)
  have X:=Hq (H2.out.row 0 #[z,B,C,.slice A L.length c,D,E,d,f,ge,gs,gt,.slice I fn J,G,.slice P O.length R,H] _ rfl);simp only[Nat.add_zero]at X;obtain⟨W3,Y⟩:=ex (W2.setRow w.heap.size #[z,B,C,.slice A L.length c,D,E,d,f,ge,gs,gt,.slice I fn J,G,.slice P O.length R,H]);rw[← Y]at X;rw[← Y];clear Y H2 U;have ak:=Aa X.out.Ai
  go_upto_region 7 with(first
   |with_reducible refine lL X.out.Am Da ?_
   |(go_at_call 202;(with_reducible refine(t.out _ X.out.below).mono ?_);rintro e w4 ⟨v,y,rfl,a7,a8,aa⟩;have M:=Hq (X.out.step aa);have an:=Aa M.out.Ai;have ao:=Ap M.out.Ai;clear ak))
  have ad:=Hq (show Eu w4 ⟨z,B,C,⟨L,D,E⟩,⟨d,f,ge,gs,gt⟩,G,ts2,H⟩ ⟨A,c,I,fn,J,v,y⟩from⟨HS.out.dk.below M.out.below,HS.out.dt.below M.out.below,a7,a8.elim (fun e=>by rw[e];exact HS.out.tt.below M.out.below) (fun e=>e.mono (Nat.zero_le _))⟩);have ae:=Hq (ad.out.set M.out.Ai (by decide) (by decide) 13 (.slice v ts2.length y));have Z:=Hq (M.out.set 0 13 (.slice v ts2.length y) _ rfl);simp only[Nat.add_zero]at Z;obtain⟨W5,a1⟩:=ex (w4.setCell ⟨w.heap.size,13,none⟩ (.slice v ts2.length y));rw[← a1]at Z ae;rw[← a1];clear a1 an ao M ad a7 a8 aa X HS t
  go_wp2_with(first
   |with_reducible refine lL Z.out.Ai Ar ?_
   |with_reducible refine lS #[z,B,C,.slice A L.length c,D,E,d,f,ge,gs,gt,.slice I fn J,G,.slice v ts2.length y,H] Z.out.Cj ?_)
  refine rT2 () Z.out.Cj Ar ?_;exact K.out v y _ (ae.out.other Z.out.Cj (by decide) (by decide) _) ((Z.out.row 2 _ _ rfl).below)
 ·have HX:=Hq (r he)
  have l:(e==0)=false:=by simpa using he
  have aq:(e != 0)=true:=by simpa using he
  clear q r he t;have K:=Hq (fun w' (j:Bw w w')=>show U8 x p w (.returned (.tuple #[Ag s p,e])) w' from by rw[HX.out];exact⟨_,rfl,HS.out.below j,⟨rfl,rfl,rfl⟩,j⟩);generalize U8 x p w=Q at K ⊢;clear HX HS af;obtain⟨z,B,C,⟨L,D,E⟩,⟨fr,ln,en,sf,tl⟩,G,O,H⟩:=s;obtain⟨A,c,I,fn,J,P,R⟩:=p;dsimp only[Ag,D7,Dz,Kv,Rc.Jr,Rc.Cm,List.length_nil]at N K ⊢;go_enter Tryz.func134,Tryz.ntmps134;go_upto_region 1 with fail;have k:=Q6 w #[z,B,C,.slice A L.length c,D,E,fr,ln,en,sf,tl,.slice I fn J,G,.slice P O.length R,H] 36 (Ct b prev a kind 0 next 0 0 0 ⟨#[]⟩ ⟨#[]⟩ 0 0 ⟨#[]⟩ 0 0 (.slice none 0 0) (.slice none 0 0)) 88 #[(),(),(),'s',(),false,(),(),(),(),"",'s',(),'s',()] 36;obtain⟨W0,u⟩:=Ee k;rw[← u]at k ⊢;clear u
  go_upto_region 2 with(first
   |with_reducible refine lP #[fr,ln,en,sf,tl] k.out.Ai Fi ?_
   |with_reducible refine lL k.out.Am Da ?_
   |(go_at_call 201;(with_reducible refine(N.out _).mono ?_);rintro e1 w1 ⟨l,m⟩;dsimp only[Kv]at l;subst l)
   |with_reducible refine sN #[d,f,ge,gs,gt] ?_)
  have H1:=Hq (k.out.step (Ak (o:=.cells #[d,f,ge,gs,gt] 30) m));obtain⟨W1,g⟩:=ex (w1.alloc (.cells #[d,f,ge,gs,gt] 30));rw[← g]at H1;rw[← g];clear g m k N
  go_wp2_with(first
   |with_reducible refine lL H1.out.Ai Ar ?_
   |with_reducible refine lS #[z,B,C,.slice A L.length c,D,E,fr,ln,en,sf,tl,.slice I fn J,G,.slice P O.length R,H] H1.out.Cj ?_)
  refine rT2 e H1.out.Cj Ar ?_;exact K.out _ ((H1.out.row 2 _ _ rfl).below)
end Go.Proofs.YtmldoihahndcgaaGreatDoor
namespace Tx
end Tx
namespace Go.Proofs.YtmldoihahndcgaaGreatDoor
open Go.RowKit
end Go.Proofs.YtmldoihahndcgaaGreatDoor
namespace Tx
theorem U9 (s:St)(r:Rc.Rec):(J4 s r).1.next=s.next:=by unfold J4;split<;>rfl
theorem Va {s:St}(h:(J4 s (Rc.bare 1 0 0 s.next)).2=0):Js s=({(J4 s (Rc.bare 1 0 0 s.next)).1 with next:=(J4 s (Rc.bare 1 0 0 s.next)).1.next+1},s.next,0):=by unfold Js;rw[if_pos h,U9]
theorem kM {s:St}(h:¬ (J4 s (Rc.bare 1 0 0 s.next)).2=0):Js s=(s,0,(J4 s (Rc.bare 1 0 0 s.next)).2):=by unfold Js;rw[if_neg h]
end Tx
namespace Go.Proofs.YtmldoihahndcgaaGreatDoor
open Go.RowKit
def Pm (x:Tx.St×Int×Int)(p:SP)(w:World)(e:Ending)(w':World):Prop:=
 ∃ p':SP,e= .returned (.tuple #[Ag x.1 p',x.2.1,x.2.2])∧Eu w' x.1 p'∧(p'.F=p.F∧p'.fn=p.fn∧p'.fc=p.fc)∧Bw w w'
theorem dS (s:Tx.St)(p:SP)(hb:Tx.Y4 s)(a7:s.txns.length≤800000)(a1:0≤s.next)(a6:s.next≤1000000000)(w:World)(h:Eu w s p):
 Cq 57 #[Ag s p] w (Pm (Tx.Js s) p w):=by
 have I:=Hq (fun W (hw:Bw w W)=>show Cq 134 #[Ag s p,.agg (Ct 0 0 s.next 1 0 0 0 0 0 ⟨#[]⟩ ⟨#[]⟩ 0 0 ⟨#[]⟩ 0 0 (.slice none 0 0) (.slice none 0 0))] W (U8 (Tx.J4 s (Rc.bare 1 0 0 s.next)) p W)from dR s p hb a7 0 0 s.next 1 0 W (h.below hw));have hk:= @Tx.Va s;have hn:= @Tx.kM s;have hx:=Tx.U9 s (Rc.bare 1 0 0 s.next);generalize Tx.J4 s (Rc.bare 1 0 0 s.next)=y at I hk hn hx;obtain⟨⟨b,d,f,⟨E,g,j⟩,⟨k,l,m,n,q⟩,r,t,a⟩,e2⟩:=y;simp only at hk hn hx
 by_cases O:e2=0
 ·subst O
  have HM:=Hq (fun(V:SP) w' (hs:Eu w' ⟨b,d,f,⟨E,g,j⟩,⟨k,l,m,n,q⟩,r,t,a+1⟩ V) (hf:V.F=p.F∧V.fn=p.fn∧V.fc=p.fc) (hb:Bw w w')=>show Pm (Tx.Js s) p w (.returned (.tuple #[Ag ⟨b,d,f,⟨E,g,j⟩,⟨k,l,m,n,q⟩,r,t,a+1⟩ V,s.next,()])) w' from by rw[hk rfl];exact⟨_,rfl,hs,hf,hb⟩);generalize Pm (Tx.Js s) p w=Q at HM ⊢;have ao:IntKind.i64.wrap (a+1)=a+1:=IntWalk.i64_in _ (by omega);clear hk hn hx h hb a7 a1 a6;obtain⟨zl,zp,zf,⟨L,lf,dn⟩,⟨fr,ln,en,sf,tl⟩,hd,ts,nx⟩:=s;obtain⟨A,c,FA,fn,fc,TA,tc⟩:=p;dsimp only[Ag]at I HM ⊢;go_enter Tryz.func57,Tryz.ntmps57;go_upto_region 1 with fail;have G:=Hp w #[zl,zp,zf,.slice A L.length c,lf,dn,fr,ln,en,sf,tl,.slice FA fn fc,hd,.slice TA ts.length tc,nx] 36 #[(),(),(),'s',(),false,(),(),(),(),"",'s',(),'s',()] 36;obtain⟨W0,P⟩:=Ee G;rw[← P]at G ⊢;clear P;have a8:=Aa G.out.Ai
  go_upto_region 2 with(first
   |with_reducible refine lL G.out.Ai Ar ?_
   |(go_at_call 134;(with_reducible refine(I.out _ G.out.below).mono ?_);rintro e w5 ⟨V,O,X,Y,N⟩;have ai:=Hq Y;clear Y;obtain⟨H,c2,x,z,B,C,D⟩:=V;(try dsimp only[Ag]at O);subst O)
   |with_reducible refine sN #[b,d,f,.slice H E.length c2,g,j,k,l,m,n,q,.slice x z B,r,.slice C t.length D,a] ?_)
  have Z:=Hq (G.out.step (Ak (o:=.cells #[b,d,f,.slice H E.length c2,g,j,k,l,m,n,q,.slice x z B,r,.slice C t.length D,a] 36) N));have HG:=Hq (heap_alloc_new w5 (.cells #[b,d,f,.slice H E.length c2,g,j,k,l,m,n,q,.slice x z B,r,.slice C t.length D,a] 36));have aa:=Hq (X.below (Ab w5 (.cells #[b,d,f,.slice H E.length c2,g,j,k,l,m,n,q,.slice x z B,r,.slice C t.length D,a] 36)));have af:w.heap.size+2≤w5.heap.size:=Nat.le_trans (G.out.lt (i:=1) (by simp)) N.size;obtain⟨R,ad⟩:=ex w5.heap.size;obtain⟨W5,J⟩:=ex (w5.alloc (.cells #[b,d,f,.slice H E.length c2,g,j,k,l,m,n,q,.slice x z B,r,.slice C t.length D,a] 36));rw[← ad]at HG af;rw[← J]at Z HG aa;rw[← J,← ad];clear ad J N X G a8 I;have aj:=Aa HG.out;have ak:=Ap HG.out;go_upto_region 5 with fail;have ag:=Hq (show(W5.setCell ⟨R,14,none⟩ (.int .i64 (a+1))).heap[R]? =some (.cells #[b,d,f,.slice H E.length c2,g,j,k,l,m,n,q,.slice x z B,r,.slice C t.length D,.int .i64 (a+1)] 36 (0,0))from by have h:=Cb 14 HG.out (.int .i64 (a+1));simpa using h);have H6:=Hq (Z.out.under (M:=R) (by show w.heap.size+2≤R;exact af) ((Below.refl R W5).setCell (p:=⟨R,14,none⟩) (Nat.le_refl R) (.int .i64 (a+1))));have ah:=Hq (show Eu (W5.setCell ⟨R,14,none⟩ (.int .i64 (a+1))) ⟨b,d,f,⟨E,g,j⟩,⟨k,l,m,n,q⟩,r,t,a+1⟩ ⟨H,c2,x,z,B,C,D⟩from by have h:=aa.out.set HG.out (by decide) (by decide) 14 (.int .i64 (a+1));exact⟨h.dk,h.dt,h.tx,h.tt⟩);obtain⟨W6,ae⟩:=ex (W5.setCell ⟨R,14,none⟩ (.int .i64 (a+1)));rw[← ae]at ag H6 ah;rw[← ae];clear ae aj ak HG Z aa;have X0:=Ae ag.out (Below.refl _ W6).drew;have K0:=H6.out.drew;have S0:=ah.out.below (Below.refl _ W6).drew;refine Gd (S:=(fun u=>u.heap[R]? =some (.cells #[b,d,f,.slice H E.length c2,g,j,k,l,m,n,q,.slice x z B,r,.slice C t.length D,.int .i64 (a+1)] 36 (0,0))∧u.heap[w.heap.size]? =some (.cells #[zl,zp,zf,.slice A L.length c,lf,dn,fr,ln,en,sf,tl,.slice FA fn fc,hd,.slice TA ts.length tc,nx] 36 (0,0)))) (fun T=>?_) (by first|exact hSn|exact⟨X0,K0.Ai⟩);refine Nk 0 Ar ?_;refine Nj 1 (some 24) (v:=?_) rfl ?_ (Nj 2 (some 25) (v:=?_) rfl ?_ ?_)
  iterate 2 (rotate_left;focus(intro u U;have an:=Aa U.2;clear U;go_simp;(try with_reducible rfl)))
  try simp only[Act.put,pS]
  refine Ch 3 fun K hK=>?_;refine Ay (by rfl) ?_;refine sW #[b,d,f,.slice H E.length c2,g,j,k,l,m,n,q,.slice x z B,r,.slice C t.length D,.int .i64 (a+1)] K0.Am ?_;have K1:=K0.row 1 #[b,d,f,.slice H E.length c2,g,j,k,l,m,n,q,.slice x z B,r,.slice C t.length D,.int .i64 (a+1)] _ rfl;have hSn:=And.intro ((Ah _ (w.heap.size+1) #[b,d,f,.slice H E.length c2,g,j,k,l,m,n,q,.slice x z B,r,.slice C t.length D,.int .i64 (a+1)] R (by omega)).trans X0) K1.Ai;refine Bq hK (fun T=>?_) (by first|exact hSn|exact⟨X0,K0.Ai⟩);clear hK K
  try simp only[Act.put]
  refine Nj 4 (some 3) (v:=?_) rfl ?_ (Nj 5 (some 4) (v:=?_) rfl ?_ ?_)
  iterate 2 (rotate_left;focus(intro u U;have an:=Aa U.2;clear U;go_simp;(try with_reducible rfl)))
  try simp only[Act.put,pS]
  refine wpAnyH_done Kr ?_ _;clear T hSn;go_wp2_with fail;refine rT3 nx () K0.Am Ar ?_;exact HM.out ⟨H,c2,x,z,B,C,D⟩ _ (S0.other K0.Am (by decide) (by decide) _) ai.out (K1.below)
 ·have aq:(e2==0)=false:=by simpa using O
  have ar:(e2 != 0)=true:=by simpa using O
  have HM:=Hq (fun w' (hb:Bw w w')=>show Pm (Tx.Js s) p w (.returned (.tuple #[Ag s p,(),e2])) w' from by rw[hn O];exact⟨_,rfl,h.below hb,⟨rfl,rfl,rfl⟩,hb⟩);generalize Pm (Tx.Js s) p w=Q at HM ⊢;clear hk hn hx h hb a7 a1 a6 O;obtain⟨zl,zp,zf,⟨L,lf,dn⟩,⟨fr,ln,en,sf,tl⟩,hd,ts,nx⟩:=s;obtain⟨A,c,FA,fn,fc,TA,tc⟩:=p;dsimp only[Ag]at I HM ⊢;go_enter Tryz.func57,Tryz.ntmps57;go_upto_region 1 with fail;have G:=Hp w #[zl,zp,zf,.slice A L.length c,lf,dn,fr,ln,en,sf,tl,.slice FA fn fc,hd,.slice TA ts.length tc,nx] 36 #[(),(),(),'s',(),false,(),(),(),(),"",'s',(),'s',()] 36;obtain⟨W0,P⟩:=Ee G;rw[← P]at G ⊢;clear P;have a8:=Aa G.out.Ai
  go_upto_region 2 with(first
   |with_reducible refine lL G.out.Ai Ar ?_
   |(go_at_call 134;(with_reducible refine(I.out _ G.out.below).mono ?_);rintro e w5 ⟨V,O,X,Y,N⟩;clear Y X;obtain⟨H,c2,x,z,B,C,D⟩:=V;(try dsimp only[Ag]at O);subst O)
   |with_reducible refine sN #[b,d,f,.slice H E.length c2,g,j,k,l,m,n,q,.slice x z B,r,.slice C t.length D,a] ?_)
  have Z:=Hq (G.out.step (Ak (o:=.cells #[b,d,f,.slice H E.length c2,g,j,k,l,m,n,q,.slice x z B,r,.slice C t.length D,a] 36) N));obtain⟨W5,J⟩:=ex (w5.alloc (.cells #[b,d,f,.slice H E.length c2,g,j,k,l,m,n,q,.slice x z B,r,.slice C t.length D,a] 36));rw[← J]at Z;rw[← J];clear J N G a8 I
  go_wp2_with(first
   |with_reducible refine lL Z.out.Ai Ar ?_
   |with_reducible refine lS #[zl,zp,zf,.slice A L.length c,lf,dn,fr,ln,en,sf,tl,.slice FA fn fc,hd,.slice TA ts.length tc,nx] Z.out.Am ?_)
  refine rT3 () e2 Z.out.Am Ar ?_;exact HM.out _ ((Z.out.row 1 _ _ rfl).below)
end Go.Proofs.YtmldoihahndcgaaGreatDoor
