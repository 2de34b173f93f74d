import Derived.Test.YtmldoihahndcgaaGreatDoorHs00
import Derived.Test.YtmldoihahndcgaaGreatDoorHs23
import Derived.Test.YtmldoihahndcgaaGreatDoorHs20
import Derived.Test.YtmldoihahndcgaaGreatDoorHs01
import Derived.Test.YtmldoihahndcgaaGreatDoorHs07
set_option maxRecDepth 100000
set_option maxHeartbeats 16000000
set_option linter.unusedSimpArgs false
namespace Go.Proofs.YtmldoihahndcgaaGreatDoor
open Go.RowKit Sc
theorem Hg (b:ByteArray)(p:Nat)(t:p/8<b.size)(v:p≤1000)(w:World):
 Cq 69 #[b,.int .i64 (p:Int)] w fun e w'=>e= .returned (.bool (bit b p))∧w=w':=by
 have f:bit b p=decide (b[p/8].toNat/2^(p%8)%2=1):=by
  have A:p/8<b.data.toList.length:=by simpa using t
  have e:b.data.toList[p/8]?.getD 0=b[p/8]:=by rw[List.getElem?_eq_getElem A,Option.getD_some];rfl
  unfold bit;rw[e,Nat.testBit_eq_decide_div_mod_eq]
 rw[f];clear f;have B:Int.tdiv (p:Int) 8=((p/8:Nat):Int):=by rw[Int.tdiv_eq_ediv_of_nonneg (by omega)];omega
 have C:Int.tmod (p:Int) 8=((p%8:Nat):Int):=by rw[Int.tmod_eq_emod_of_nonneg (by omega)];omega
 have k:IntKind.i64.wrap ((p/8:Nat):Int)=((p/8:Nat):Int):=IntWalk.i64_in _ (by omega);have l:IntKind.i64.wrap ((p%8:Nat):Int)=((p%8:Nat):Int):=IntWalk.i64_in _ (by omega);have D:p%8<8:=Nat.mod_lt _ (by decide);generalize p/8=q at t B k ⊢;generalize p%8=r at C l D ⊢;have E:(0:Int)≤(q:Int):=by omega
 have F:(q:Int)<(b.size:Int):=by omega
 obtain⟨y,a⟩:=ex (b[q].toNat);have G:y<256:=by rw[a];exact b[q].toNat_lt
 have H:IntKind.i64.wrap (b[q].toNat:Int)=(y:Int):=by rw[← a];exact IntWalk.i64_in _ (by omega)
 rw[← a];clear a;go_enter Tryz.func69,Tryz.ntmps69;go_upto_region 3 with fail;go_wp2_with fail
 go_loop [6,7] (fun n i=>∃ j:Nat,j≤r∧i= .int .i64 (j:Int)∧n= .int .i64 ((y/2^j:Nat):Int)) (fun _ i=>r-(intOf i).toNat)
 case atStart=>exact⟨0,Nat.zero_le _,rfl,by rw[Nat.pow_zero,Nat.div_one]⟩
 case round=>
  obtain⟨j,N,rfl,rfl⟩:=hrel;have m:y/2^j<256:=Nat.lt_of_le_of_lt (Nat.div_le_self _ _) G;have g:y/2^(j+1)=y/2^j/2:=by rw[Nat.pow_succ,Nat.div_div_eq_div_mul]
  have d:=Hq g;clear g
  by_cases I:j<r
  ·have o:(j:Int)<(r:Int):=by omega
   have J:IntKind.i64.wrap ((j:Int)+1)=(j:Int)+1:=IntWalk.i64_in _ (by omega);generalize y/2^j=z at m d ⊢;have K:Int.tdiv (z:Int) 2=((z/2:Nat):Int):=(by rw[Int.tdiv_eq_ediv_of_nonneg (by omega)];omega);have s:IntKind.i64.wrap ((z/2:Nat):Int)=((z/2:Nat):Int):=IntWalk.i64_in _ (by omega);go_wp2_with fail
   go_round
   case rel=>exact⟨j+1,by omega,by go_num,by rw[d.out];exact congrArg (Value.int .i64) (by omega)⟩
   case measure=>simp[intOf];omega
  ·obtain rfl:j=r:=by omega
   have o:¬ (j:Int)<(j:Int):=(by omega);clear d;obtain⟨z,c⟩:=ex (y/2^j);have L:z<256:=(by rw[c];exact m);have u:(((z:Int)%2)==1)=decide (y/2^j%2=1):=by
    rw[← c];have:z%2=0∨z%2=1:=(by omega);rcases this with h|h
    ·rw[show(z:Int)%2=0 by omega,h];rfl
    ·rw[show(z:Int)%2=1 by omega,h];rfl
   rw[← c];clear m c;have K:Int.tmod (z:Int) 2=((z%2:Nat):Int):=(by rw[Int.tmod_eq_emod_of_nonneg (by omega)];omega);have s:IntKind.i64.wrap ((z%2:Nat):Int)=((z%2:Nat):Int):=IntWalk.i64_in _ (by omega);have M:=Hq u;clear u;go_wp2_with fail;go_ret;exact⟨congrArg (fun x=>Ending.returned (.bool x)) M.out,rfl⟩
theorem qS:∀ r<8,∀ y<256,(y.testBit r=false→y ^^^ 2^r=y+2^r)∧(y.testBit r=true→2^r≤y∧y ^^^ 2^r=y-2^r):=by decide+kernel
theorem oG {b:ByteArray}{p:Nat}(c:p/8<b.size):Bx b p=(b.extract 0 (p/8)++⟨#[UInt8.ofNat (b[p/8].toNat ^^^ 2^(p%8))]⟩)++b.extract (p/8+1) b.size:=by
 have a:p/8<b.data.toList.length:=by simpa using c
 have e:b.data.toList[p/8]?.getD 0=b[p/8]:=by rw[List.getElem?_eq_getElem a,Option.getD_some];rfl
 unfold Bx;rw[e]
 apply ByteArray.ext
 apply Array.toList_inj.1
 rw[ByteArray.data_append,ByteArray.data_append,ByteArray.data_extract,ByteArray.data_extract,Array.toList_append,Array.toList_append,Array.toList_extract,Array.toList_extract,List.set_eq_take_append_cons_drop,if_pos a];have d:b.size=b.data.toList.length:=by simp
 simp only[List.extract_eq_take_drop,List.drop_zero,Nat.sub_zero];rw[List.append_assoc]
 congr 1
 show _=[_]++_
 rw[List.singleton_append]
 congr 1
 rw[d,List.take_of_length_le (by simp)]
theorem kG (c:Nat)(b:c<256)(W:World):(convert 104 9 (.slice (some ⟨W.heap.size,0,none⟩) 1 1)).run Tryz.prog (W.alloc (.cells #[.int .u8 (c:Int)] 5)).drew= .ok (.string ⟨#[UInt8.ofNat c]⟩) (W.alloc (.cells #[.int .u8 (c:Int)] 5)).drew:=
 run_convert_bytes_back (P:=Tryz.prog) (W.alloc (.cells #[.int .u8 (c:Int)] 5)).drew 104 9 5 ⟨W.heap.size,0,none⟩ 1 [UInt8.ofNat c] Jb oQ kR (fun j a=>by
  obtain rfl:j=0:=by simpa using a
  show World.cell? (W.alloc (.cells #[.int .u8 (c:Int)] 5)) ⟨W.heap.size,0,none⟩=_
  rw[World.cell?_alloc_new];have e:(UInt8.ofNat c).toNat=c:=by rw[UInt8.toNat_ofNat'];omega
  simp[e])
theorem aB (b:ByteArray)(p:Nat)(A:p/8<b.size)(B:p≤1000)(Q:b.size≤1000)(w:World):
 Cr 144 #[b,.int .i64 (p:Int)] w (.string (Bx b p)):=by
 have t:=Hq (fun W=>Hg b p A B W);have c:bit b p=b[p/8].toNat.testBit (p%8):=by
  have R:p/8<b.data.toList.length:=by simpa using A
  have e:b.data.toList[p/8]?.getD 0=b[p/8]:=by rw[List.getElem?_eq_getElem R,Option.getD_some];rfl
  unfold bit;rw[e]
 have s:=Hq (oG A);have S:Int.tdiv (p:Int) 8=((p/8:Nat):Int):=by rw[Int.tdiv_eq_ediv_of_nonneg (by omega)];omega
 have T:Int.tmod (p:Int) 8=((p%8:Nat):Int):=by rw[Int.tmod_eq_emod_of_nonneg (by omega)];omega
 have C:IntKind.i64.wrap ((p/8:Nat):Int)=((p/8:Nat):Int):=IntWalk.i64_in _ (by omega);have D:IntKind.i64.wrap ((p%8:Nat):Int)=((p%8:Nat):Int):=IntWalk.i64_in _ (by omega);have E:IntKind.i64.wrap (((p/8:Nat):Int)+1)=((p/8:Nat):Int)+1:=IntWalk.i64_in _ (by omega);have F:p%8<8:=Nat.mod_lt _ (by decide);generalize bit b p=U at t c;generalize Bx b p=fb at s ⊢;generalize p/8=q at A S C E s c;generalize p%8=r at T D F s c;have V:(0:Int)≤(q:Int):=by omega
 have X:(q:Int)<(b.size:Int):=by omega
 have K:(q:Int)≤(b.size:Int):=by omega
 have Y:((q:Int)).toNat=q:=by omega
 have L:(0:Int)≤(q:Int)+1:=by omega
 have M:(q:Int)+1≤(b.size:Int):=by omega
 have N:((q:Int)+1).toNat=q+1:=by omega
 obtain⟨y,d⟩:=ex (b[q].toNat);have O:y<256:=by rw[d];exact b[q].toNat_lt
 have Z:IntKind.i64.wrap (b[q].toNat:Int)=(y:Int):=by rw[← d];exact IntWalk.i64_in _ (by omega)
 rw[← d]at s c;have a:=qS r F _ O;have g:y ^^^ 2^r<256:=Nat.xor_lt_two_pow (n:=8) O (Nat.pow_lt_pow_right (by omega) F);obtain⟨z,P⟩:=ex (y ^^^ 2^r);rw[← P]at a g s;clear d;have G:2^r≤128:=Nat.pow_le_pow_right (n:=2) (by omega) (show r≤7 by omega);have h:=Hq a;have u:=Hq c;clear a c P;go_enter Tryz.func144,Tryz.ntmps144;go_wp2_with fail
 go_loop [5,6] (fun n i=>∃ j:Nat,j≤r∧i= .int .i64 (j:Int)∧n= .int .i64 ((2^j:Nat):Int)) (fun _ i=>r-(intOf i).toNat)
 case atStart=>exact⟨0,Nat.zero_le _,rfl,rfl⟩
 case round=>
  obtain⟨j,hj,rfl,rfl⟩:=hrel
  by_cases a1:j<r
  ·have H:(j:Int)<(r:Int):=by omega
   have a6:IntKind.i64.wrap ((j:Int)+1)=(j:Int)+1:=IntWalk.i64_in _ (by omega);have I:2^j≤128:=Nat.pow_le_pow_right (n:=2) (by omega) (show j≤7 by omega);have v:=Hq (show 2^(j+1)=2*2^j from by rw[Nat.pow_succ,Nat.mul_comm]);generalize 2^j=m at I v ⊢;have a7:IntKind.i64.wrap (2*(m:Int))=((2*m:Nat):Int):=(by rw[IntWalk.i64_in _ (by omega)];omega);go_wp2_with fail
   go_round
   case rel=>exact⟨j+1,by omega,by go_num,by rw[v.out];exact congrArg (Value.int .i64) (by omega)⟩
   case measure=>simp[intOf];omega
  ·obtain rfl:j=r:=by omega
   have H:¬ (j:Int)<(j:Int):=(by omega);generalize 2^j=m at G h ⊢
   go_upto_if 23 with(go_at_call 69;refine(t.out _).mono ?_;rintro e w1 ⟨rfl,rfl⟩)
   have a8:IntKind.i64.wrap (-(m:Int))= -(m:Int):=IntWalk.i64_in _ (by omega)
   go_cut [5] (fun n wc=>n= .int .i64 ((z:Int)-(y:Int))∧wc=w)
   case first=>
    have a:=h.out;rw[← u.out]at a;clear h u
    cases U with
    |true=>
     have k:=Hq (a.2 rfl);clear a;go_wp2_with fail;go_meet
     case rel=>exact⟨by have:=k.out;rw[this.2];exact congrArg (Value.int .i64) (by omega),rfl⟩
    |false=>
     have k:=Hq (a.1 rfl);clear a;go_wp2_with fail;go_meet
     case rel=>exact⟨by have:=k.out;rw[this];exact congrArg (Value.int .i64) (by omega),rfl⟩
   case rest=>
    obtain⟨rfl,rfl⟩:=hcut;have aa:IntKind.i64.wrap ((y:Int)+((z:Int)-(y:Int)))=(z:Int):=(by rw[IntWalk.i64_in _ (by omega)];omega);have x:(z:Int)%256=(z:Int):=(by omega);have ad:=Xc z g;have ae:=kG z g;have af:IntKind.u8.wrap (z:Int)=(z:Int):=x;obtain⟨t1,f⟩:=ex (b.extract 0 q++⟨#[UInt8.ofNat z]⟩:ByteArray);have ag:(b.extract 0 q).size≤1000:=(by rw[ByteArray.size_extract];omega);have J:t1.size≤1001:=(by rw[f,ByteArray.size_append];show _+1≤_;omega);have ah:(b.extract (q+1) b.size).size≤1000:=(by rw[ByteArray.size_extract];omega);have l:∀ W:World,(Op.stringOp .add (b.extract 0 q) ⟨#[UInt8.ofNat z]⟩).run Tryz.prog W= .ok (.string t1) W:=fun W=>by
     rw[f];exact run_string_add_sum W _ _ (by show _+1≤_;omega)
    have o:∀ W:World,(Op.stringOp .add t1 (b.extract (q+1) b.size)).run Tryz.prog W= .ok (.string (t1++b.extract (q+1) b.size)) W:=fun W=>run_string_add_sum W _ _ (by omega);rw[f]at J l o;clear f;go_upto_region 9 with fail
    go_region
    all_goals
     go_wp2_with fail;go_ret;exact⟨by rw[s.out];rfl,((Below.refl _ _).alloc (Nat.le_refl _) _).drew⟩
theorem Tf (s:Tx.St)(p:SP)(n:Nat)(d:s.zpages=(n:Int))(i:n≤60)(w:World):
 Cr 61 #[Ag s p] w (.int .i64 (((n+7)/8:Nat):Int)):=by
 have e:=Hq d;clear d;have f:IntKind.i64.wrap ((n:Int)+7)=(n:Int)+7:=IntWalk.i64_in _ (by omega);have g:Int.tdiv ((n:Int)+7) 8=(((n+7)/8:Nat):Int):=by rw[Int.tdiv_eq_ediv_of_nonneg (by omega)];omega
 have c:IntKind.i64.wrap (((n+7)/8:Nat):Int)=(((n+7)/8:Nat):Int):=IntWalk.i64_in _ (by omega);generalize (((n+7)/8:Nat):Int)=m at g c ⊢;go_enter Tryz.func61,Tryz.ntmps61;go_upto_region 1 with fail;have b:=aI w (Aj s p) 36;obtain⟨h,a⟩:=Ee b;rw[← a]at b ⊢;clear a;have j:=show h.cell? ⟨w.heap.size,1,none⟩=some (.int .i64 (n:Int))from by rw[Aa b.out.Ai,← e.out];rfl
 go_wp2_with fail;go_ret;exact⟨rfl,b.out.below⟩
theorem Tg (s:Tx.St)(p:SP)(s2:Tx.St)(c:SP)(x:Int)(e:x≠20)(w:World):
 Cr 63 #[Ag s p,Ag s2 c,x] w (if x=0 then Ag s2 c else Ag s p):=by
 have f:(x==20)=false:=beq_eq_false_iff_ne.2 e
 by_cases d:x=0
 ·rw[if_pos d]
  have g:(x==0)=true:=by rw[d];rfl
  clear d e f;go_enter Tryz.func63,Tryz.ntmps63;go_upto_region 1 with fail;have a:=Q6 w (Aj s p) 36 (Aj s2 c) 36 #[(),(),(),'s',(),false,(),(),(),(),"",'s',(),'s',()] 36;obtain⟨h,b⟩:=Ee a;rw[← b]at a ⊢;clear b
  go_wp2_with(first|with_reducible refine lL a.out.Am Ar ?_|with_reducible refine lS (Aj s2 c) a.out.Cj ?_)
  refine rT1 a.out.Cj Ar ?_;exact⟨rfl,(a.out.row 2 (Aj s2 c) _ rfl).below⟩
 ·rw[if_neg d]
  have g:(x==0)=false:=beq_eq_false_iff_ne.2 d;clear d e;go_enter Tryz.func63,Tryz.ntmps63;go_upto_region 1 with fail;have a:=Q6 w (Aj s p) 36 (Aj s2 c) 36 #[(),(),(),'s',(),false,(),(),(),(),"",'s',(),'s',()] 36;obtain⟨h,b⟩:=Ee a;rw[← b]at a ⊢;clear b
  go_wp2_with(first|with_reducible refine lL a.out.Ai Ar ?_|with_reducible refine lS (Aj s p) a.out.Cj ?_)
  refine rT1 a.out.Cj Ar ?_;exact⟨rfl,(a.out.row 2 (Aj s p) _ rfl).below⟩
def Om (N n k:Nat)(ids:List Int)(c:Int)(C:Nat→ByteArray)(b:ByteArray)(w:World)(e:Ending)(w':World):Prop:=
 ∃ (s':Tx.St) (q:SP) (fs':List Fr),e= .returned (.tuple #[Ag s' q,b,()])∧Ao w' s' q fs'∧SW N n k ids c s' fs' C∧Bw w w'
theorem Iw {N n k:Nat}{ids:List Int}{c:Int}(s:Tx.St)(p:SP)(fs:List Fr)(C:Nat→ByteArray)(B:SW N n k ids c s fs C)(b:ByteArray)(u:Nat→Nat){V:Nat→Nat×List ByteArray}(E:SI n C b u V)(w:World)(h:Ao w s p fs):
 Cq 68 #[Ag s p] w (Om N n k ids c C b w):=by
 have F:=Hq (fun W (hb:Bw w W)=>fN s p fs C B 0 (by have:=B.ss.pi.n1;omega) W (h.below hb));have hn:=B.ss.pi.n1;have f:=B.ss.pi.nm 0 (by omega);have o:=Hq (fun W=>Gq (C 0) 0 (by rw[f.size];omega) W);have r:=Hq (fun W=>gH (C 0) (by rw[f.size];omega) W);have v:=Hq (fun W=>aW (C 0) (by rw[f.size];omega) W);have G:Pg.Bc (Af (C 0)).recs 0=b:=by rw[E.r0];rfl
 have x:=E.sz;have H:¬ b.size=0:=by rw[x];omega
 rw[G,decide_eq_false H]at o;rw[E.k0]at r;rw[E.r0]at v;have I:=Hq (fun W=>show Cr 61 #[Ag s p] W (.int .i64 (b.size:Int)) from by rw[x];exact Tf s p n B.ss.pi.zp (by omega) W);have HQ:=Hq (fun(s':Tx.St) (q:SP) (Y:List Fr) w' h1 h2 h3=>show Om N n k ids c C b w (.returned (.tuple #[Ag s' q,b,()])) w' from⟨s',q,Y,rfl,h1,h2,h3⟩);generalize Om N n k ids c C b w=Q at HQ ⊢;clear h B hn f G x H E;have aa:((1:Int) != 1)=false:=rfl;go_enter Tryz.func68,Tryz.ntmps68;go_upto_region 1 with fail;have y:=Hp w (Aj s p) 36 #[(),(),(),'s',(),false,(),(),(),(),"",'s',(),'s',()] 36;obtain⟨W0,J⟩:=Ee y;rw[← J]at y ⊢;clear J
 go_upto_region 2 with(first
  |with_reducible refine lL y.out.Ai Ar ?_
  |(go_at_call 96;refine(F.out _ y.out.below).mono ?_;rintro e D ⟨s1,m,Z,rfl,K,L,j⟩)
  |with_reducible refine sN (Aj s1 m) ?_)
 have M:=j.trans ((Ab D (.cells (Aj s1 m) 36)).mono j.size);have T:=Hq (y.out.step M);have z:=Hq (K.below (Ab D (.cells (Aj s1 m) 36)));have A:=Hq (heap_alloc_new D (.cells (Aj s1 m) 36));have a1:=Hq L;have a6:(w.heap.size+1)<D.heap.size:=Nat.lt_of_lt_of_le (y.out.lt (i:=1) (by simp)) j.size;obtain⟨g,U⟩:=ex D.heap.size;obtain⟨w2,l⟩:=ex (D.alloc (.cells (Aj s1 m) 36));rw[← U,← l]at A;rw[← l]at T z;rw[← l,← U];rw[← U]at a6;clear l U j M K L y F
 try simp only[Act.put]
 go_upto_region 7 with(first
  |with_reducible refine lL H4.out.Ai Ar ?_
  |(go_at_call 98;refine(o.out _).mono ?_;rintro e w3 ⟨rfl,O⟩)
  |(go_at_call 143;refine(r.out _).mono ?_;rintro e w4 ⟨rfl,P⟩;have d:=Ad O P;have H4:=Hq (T.out.step d))
  |(go_at_call 61;refine(I.out _).mono ?_;rintro e w5 ⟨rfl,R⟩)
  |(go_at_call 100;refine(v.out _).mono ?_;rintro e w6 ⟨rfl,S⟩))
 have a:=Ad d (Ad R S);have X:=Hq (T.out.step a);have a7:=Hq (z.out.below a);have a8:=Hq (Ae A.out a);clear O P R S d a T H4 z A o r v I
 go_wp2_with(first
  |with_reducible refine lL a8.out Ar ?_
  |with_reducible refine lS (Aj s1 m) X.out.Am ?_)
 refine rT3 b () X.out.Am Ar ?_;exact HQ.out s1 m Z _ (a7.out.other (t:=36) X.out.Am (by decide) (by decide) (by decide) _) a1.out (X.out.row 1 (Aj s1 m) _ rfl).below
theorem Qb {N n k:Nat}{ids:List Int}{c:Int}(s:Tx.St)(p:SP)(fs:List Fr)(C:Nat→ByteArray)(A:SW N n k ids c s fs C)(B:c+2524≤(N:Int)*128)(t:Int)(D:t∈ids)(pg:Nat)(i:pg<n)(o:Rc.Op)(hk:o.kind=3∨o.kind=7)(j:o.new.size≤1000)(b:ByteArray)(E:rF o (C pg)=(b,0))
 (F:∀ l v,Rc.num l→Rc.num v→Rc.Bs (⟨l,v,t,2,(pg:Int),0,0,o,1,0,Rc.Cm,[],[]⟩:Rc.Rec)) (w:World) (h:Ao w s p fs):
 Cq 140 #[Ag s p,t,.int .i64 (pg:Int),.agg #[o.kind,o.slot,o.Cs,o.new]] w (fO N n k ids (c+2524) C pg b w):=by
 have m:=Hq (fun W (H:Bw w W)=>dN s p fs C A B t D pg i o b E F (fun I J P=>nZ I ⟨o.kind,o.slot,o.Cs,o.new⟩ hk (by omega) (by simp only;omega) J) W (h.below H));clear A F E h B D j hk;have G:=Hq (fun(d:Tx.St) (q:SP) (a:List Fr) (l:Int) w' K L M O=>show fO N n k ids (c+2524) C pg b w (.returned (.tuple #[Ag d q,()])) w' from⟨d,q,a,l,rfl,K,L,M,O⟩);generalize r:fO N n k ids (c+2524) C pg b w=Q at G ⊢;clear r;go_enter Tryz.func140,Tryz.ntmps140;go_upto_region 1 with fail;have f:=Q6 w (Aj s p) 36 #[o.kind,o.slot,o.Cs,o.new] 83 #[(),(),(),'s',(),false,(),(),(),(),"",'s',(),'s',()] 36;obtain⟨R,g⟩:=Ee f;rw[← g]at f ⊢;clear g
 go_wp2_with(first
  |with_reducible refine lL f.out.Ai Ar ?_
  |with_reducible refine lL f.out.Am pC ?_
  |(go_at_call 116;refine(m.out _ f.out.below).mono ?_;rintro e S ⟨d,q,a,l,rfl,u,x,y,z⟩;have H1:=Hq (f.out.step z))
  |with_reducible refine lS (Aj d q) H1.out.Cj ?_)
 refine rT2 () H1.out.Cj Ar ?_;exact G.out d q a l _ (u.other (t:=36) H1.out.Cj (by decide) (by decide) (by decide) _) x y (H1.out.row 2 (Aj d q) _ rfl).below
def Lx (N n k:Nat)(ids:List Int)(c:Int)(C:Nat→ByteArray)(pg kind link:Nat)(recs:List ByteArray)(w:World)(e:Ending)(w':World):Prop:=
 ∃ (s':Tx.St) (q:SP) (fs':List Fr) (C':Nat→ByteArray),e= .returned (.tuple #[Ag s' q,()])∧Ao w' s' q fs'∧SW N n k ids c s' fs' C'∧Pk C C' pg kind link recs∧Bw w w'
theorem U6 {N n k:Nat}{ids:List Int}{c:Int}(s:Tx.St)(p:SP)(fs:List Fr)(C:Nat→ByteArray)(hS:SW N n k ids c s fs C)(hc:c+2524≤(N:Int)*128)(t:Int)(ht:t∈ids)(O:Rc.num t)(pg:Nat)(H:pg<n)(d:ByteArray)(y:Mo d)(h0:(Af d).lsn=0)(w:World)(h:Ao w s p fs):
 Cq 62 #[Ag s p,t,.int .i64 (pg:Int),d] w (Lx N n k ids (c+2524) C pg (Af d).kind (Af d).link (Af d).recs w):=by
 have P:=Hq (fun W (hb:Bw w W)=>fN s p fs C hS pg H W (h.below hb));have A:=hS.ss.pi.nm pg H;have B:=oD A y h0;have aq:=hS.ss.pi.n1;have R:=Hq (fun W=>Sw (C pg) (by rw[A.size];omega) W);have I:=Hq (fun(s1:Tx.St) (p1:SP) (m:List Fr) (a8:SW N n k ids c s1 m C) W (hP:Ao W s1 p1 m)=>show Cq 140 #[Ag s1 p1,t,.int .i64 (pg:Int),.agg #[.int .i64 7,(),.string (Bg (C pg) 0),d]] W _ from Qb s1 p1 m C a8 hc t ht pg H ⟨7,0,Bg (C pg) 0,d⟩ (.inr rfl) (by show d.size≤1000;rw[y.size];omega) (Bg d ((Af (C pg)).lsn:Nat)) B.1 (Qw (by have:=(Ia A.is (l:=0) (by omega)).2.2;rw[show((0:Nat):Int)=0 from rfl]at this;omega) (by rw[y.size];omega) t O (by omega) 7 ⟨by decide,by decide⟩) W hP);have HQ:=Hq (fun(f:Tx.St) (q:SP) (a:List Fr) (l:Int) w' h1 (h2:SW N n k ids (c+2524) f a (fun x=>if x=pg then Bg (Bg d ((Af (C pg)).lsn:Nat)) l else C x)) (h3:Rc.num l) h4=>show Lx N n k ids (c+2524) C pg (Af d).kind (Af d).link (Af d).recs w (.returned (.tuple #[Ag f q,()])) w' from⟨f,q,a,_,rfl,h1,h2,by have h5:=Qv (C:=C) (pg:=pg) B.2.1 h3;rw[B.2.2]at h5;exact h5,h4⟩);generalize aa:Lx N n k ids (c+2524) C pg (Af d).kind (Af d).link (Af d).recs w=Q at HQ ⊢;clear aa B A h hc ht O y h0 hS;generalize Bg d ((Af (C pg)).lsn:Nat)=b9 at I HQ;generalize Bg (C pg) 0=z at R I;go_enter Tryz.func62,Tryz.ntmps62;go_upto_region 1 with fail;have J:=Hp w (Aj s p) 36 #[(),(),(),'s',(),false,(),(),(),(),"",'s',(),'s',()] 36;obtain⟨W0,T⟩:=Ee J;rw[← T]at J ⊢;clear T
 go_upto_region 4 with(first
  |with_reducible refine lL J.out.Ai Ar ?_
  |(go_at_call 96;refine(P.out _ J.out.below).mono ?_;rintro e M ⟨s1,F,m,rfl,U,V,D⟩)
  |with_reducible refine sN (Aj s1 F) ?_)
 have X:=D.trans ((Ab M (.cells (Aj s1 F) 36)).mono D.size);have H2:=Hq (J.out.step X);have Y:=Hq (U.below (Ab M (.cells (Aj s1 F) 36)));have Z:=Hq (heap_alloc_new M (.cells (Aj s1 F) 36));have ad:=Hq V;have ae:(w.heap.size+1)<M.heap.size:=Nat.lt_of_lt_of_le (J.out.lt (i:=1) (by simp)) D.size;obtain⟨g,hg⟩:=ex M.heap.size;obtain⟨w2,E⟩:=ex (M.alloc (.cells (Aj s1 F) 36));rw[← hg,← E]at Z;rw[← E]at H2 Y;rw[← E,← hg];rw[← hg]at ae;clear E hg D X U V J P
 try simp only[Act.put]
 go_cut [9] (fun x wc=>x= .int .i64 0∧∃ (f:Tx.St) (q:SP) (a:List Fr) (l:Int),wc.heap[(w.heap.size+1)]? =some (.cells (Aj f q) 36 (0,0))∧Ao wc f q a∧SW N n k ids (c+2524) f a (fun x=>if x=pg then Bg b9 l else C x)∧Rc.num l∧Bw w wc)
 case first=>
  have L:=Hq (fun(u:World) (hu:Bw w2 u)=>show u.heap[g]? =some (.cells (Aj s1 F) 36 (0,0))from Ae Z.out hu);have j:Bw w2 w2.drew:=(Below.refl _ w2).drew;have hSn:=L.out _ j;refine Gd (S:=(fun u=>u.heap[g]? =some (.cells (Aj s1 F) 36 (0,0)))) (fun b=>?_);generalize w2.drew=w8 at hSn j ⊢;refine Nk 0 Ar ?_;refine Au 1 ?_;refine Au 2 ?_;refine Au 3 ?_;refine Au 5 ?_;refine Ch 4 fun K G=>?_
  go_simp
  (refine(R.out _).mono ?_);rintro e w9 ⟨rfl,o⟩;have r:=Ad j o;clear j hSn o;have j:=r;clear r;have hSn:=L.out _ j
  refine Bq G (fun b=>?_);clear G K;refine Au 6 ?_;refine Ch 7 fun K G=>?_
  go_simp
  (refine(I.out s1 F m ad.out _ (Y.out.below j)).mono ?_);rintro e w9 ⟨f,q,a,l,rfl,af,ag,ah,o⟩;have r:=Ad j o;clear j hSn o;have j:=r;clear r;have hSn:=L.out _ j;have H9:=H2.out.step j
  refine Bq G (fun b=>?_);clear G K;refine Au 8 ?_;refine Au 9 ?_;refine Ch 10 fun K G=>?_;refine Ay (by rfl) ?_;refine sW (Aj f q) H9.Am ?_;have a1:=H9.row 1 (Aj f q) _ rfl;have a6:=af.other (t:=36) H9.Am (by decide) (by decide) (by decide) (Aj f q);have a7:=(Ah _ _ (Aj f q) _ (show g≠w.heap.size+1 by omega)).trans hSn;clear hSn;have hSn:=a7;clear a7;refine Bq G (fun b=>?_);clear G K;refine Au 11 ?_;refine wpAnyH_done Kr ?_ _;clear b;go_wp2_with fail;go_meet
  case rel=>exact⟨rfl,f,q,a,l,a1.Am,a6,ag,ah,a1.below⟩
 case rest=>
  obtain⟨rfl,f,q,a,l,ai,aj,ak,an,ao⟩:=hcut;go_wp2_with fail;refine bodyPost_ret (v:=.tuple #[.agg (Aj f q),()]) (Jn rfl _ _ rfl (Ci ai Ar Kr Kr) rfl) rfl ?_;exact HQ.out f q a l _ aj ak an ao
end Go.Proofs.YtmldoihahndcgaaGreatDoor
