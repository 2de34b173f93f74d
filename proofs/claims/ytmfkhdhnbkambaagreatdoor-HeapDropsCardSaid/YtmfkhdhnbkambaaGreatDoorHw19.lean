import Derived.Test.YtmfkhdhnbkambaaGreatDoorHw00
import Derived.Test.YtmfkhdhnbkambaaGreatDoorHw08
import Derived.Test.YtmfkhdhnbkambaaGreatDoorHw11
import Derived.Test.YtmfkhdhnbkambaaGreatDoorHw18
import Derived.Test.YtmfkhdhnbkambaaGreatDoorHw02
set_option maxRecDepth 100000
set_option maxHeartbeats 16000000
set_option linter.unusedSimpArgs false
namespace Go.Proofs.YtmfkhdhnbkambaaGreatDoor
open Go.RowKit Sc
def Vu (d:Lg.Dk)(a:Nat):Nat→ByteArray
 |0=>⟨#[]⟩
 |k+1=>Vu d a k++Lg.Iq d ((a:Int)+(k:Int))
theorem K5 {d:Lg.Dk}{a k:Nat}(h:a+k<d.sectors.length):Lg.Iq d ((a:Int)+(k:Int))=d.sectors[a+k]:=by
 unfold Lg.Iq;rw[show((a:Int)+(k:Int)).toNat=a+k by omega,List.getElem?_eq_getElem h]
 rfl
theorem eG {d:Lg.Dk}{a:Nat}(h:a+4≤d.sectors.length):Vu d a 4=Ga d a:=by
 rw[Ve h]
 show(((⟨#[]⟩++Lg.Iq d ((a:Int)+((0:Nat):Int)))++Lg.Iq d ((a:Int)+((1:Nat):Int)))++Lg.Iq d ((a:Int)+((2:Nat):Int)))++Lg.Iq d ((a:Int)+((3:Nat):Int))=_
 rw[K5 (by omega),K5 (by omega),K5 (by omega),K5 (by omega)]
 congr 3
theorem qI {d:Lg.Dk}(b:d.down=false){a k:Nat}(h:a+k<d.sectors.length):Lg.Lt d ((a:Int)+(k:Int))=(Lg.Iq d ((a:Int)+(k:Int)),0):=by
 unfold Lg.Lt;rw[if_neg (by rw[b];decide),if_pos (show Lg.Hm d ((a:Int)+(k:Int))from⟨by omega,by omega⟩)]
theorem Xn {M:Nat}(d:Lg.Dk)(v:Uo M d)(m:d.down=false)(A:Option Addr)(c:Nat)(a:Nat)(T:a+4≤M)(U:M≤100000)(w:World)(h:Dd w d A c):
 Cr 226 #[D1 d A c,.int .i64 (a:Int)] w (.tuple #[.string (Ga d a),()]):=by
 have hlen:=v.len;have x:=Hq (fun k (hk:k<4) W (K:Bw w W)=>show Cr 268 #[D1 d A c,.int .i64 ((a:Int)+((k:Nat):Int))] W (.tuple #[.string (Lg.Iq d ((a:Int)+(k:Int))),()]) from by
  have G:=T5 d A c ((a:Int)+(k:Int)) W (h.below K);rw[qI m (by omega)]at G;exact G)
 have y:=Hq (fun k (hk:k<4)=>show(Lg.Iq d ((a:Int)+((k:Nat):Int))).size=128 from by rw[K5 (by omega)];exact v.sz _ (List.getElem_mem _));have j:=Hq (eG (d:=d) (a:=a) (by omega));have H:=Hq (fun k=>show Vu d a (k+1)=Vu d a k++Lg.Iq d ((a:Int)+(k:Int))from rfl);have l:=Hq (show Vu d a 0=⟨#[]⟩from rfl);generalize Ga d a=pg at j ⊢;generalize Vu d a=u at j H l;clear h v m hlen;go_enter Tryz.func226,Tryz.ntmps226;go_upto_region 1 with fail;have n:=bP w #[.slice A d.sectors.length c,d.left,d.down] 28;obtain⟨L,p⟩:=E0 n;rw[← p]at n ⊢;clear p;have N:=Hq n.out.Ao;have q:=Hq n.out.below;clear n;go_wp2_with fail
 go_loopw [1,6,7] (fun t o i wr=>∃ k:Nat,k≤4∧i= .int .i64 k∧o= .string (u k)∧t= .int .i64 (a:Int)∧(u k).size=k*128∧Bw L wr) (fun _ _ i _=>4-(intOf i).toNat)
 case atStart=>exact⟨0,Nat.zero_le _,rfl,by rw[l.out],rfl,by rw[l.out];rfl,Below.refl _ _⟩
 case round=>
  obtain⟨k,hk,rfl,rfl,rfl,B,f⟩:=hrel;have I:=Hq (q.out.trans (f.mono q.out.size));have C:=Hq (Af N.out f);have O:(0:Int)≤(k:Int):=by omega
  by_cases r:k<4
  ·have P:(k:Int)<4:=by omega
   have Q:IntKind.i64.wrap ((k:Int)+1)=(k:Int)+1:=IntWalk.i64_in _ (by omega);have R:IntKind.i64.wrap ((a:Int)+(k:Int))=(a:Int)+(k:Int):=IntWalk.i64_in _ (by omega);have S:¬ (1099511627776:Int)<(a:Int):=(by omega);have s:=Hq (x.out k r);have D:=y.out k r;have g:=Hq (H.out k);generalize Lg.Iq d ((a:Int)+(k:Int))=z at s D g;have E:=Hq (show(u (k+1)).size=(k+1)*128 from by rw[g.out,ByteArray.size_append];omega);generalize u k=b at B g ⊢;have J:∀ W:World,(Op.stringOp .add b z).run Tryz.prog W= .ok (.string (b++z)) W:=fun W=>run_string_add_sum W _ _ (by omega)
   go_wp2_with(first|with_reducible refine lL C.out Fy ?_|(go_at_call 268;(with_reducible refine(s.out _ I.out).mono ?_);rintro e V ⟨rfl,F⟩))
   go_roundw
   case rel=>exact⟨k+1,by omega,by go_num,by rw[← g.out],rfl,E.out,f.trans (F.mono f.size)⟩
   case measure=>simp[intOf];omega
  ·obtain rfl:k=4:=by omega
   go_wp2_with fail;go_ret2;exact⟨by rw[j.out];rfl,I.out⟩
theorem Xo (d:Lg.Dk)(b:d.down=true)(A:Option Addr)(c:Nat)(a:Nat)(B:a≤100000)(w:World)(h:Dd w d A c):
 Cr 226 #[D1 d A c,.int .i64 (a:Int)] w (.tuple #["",.int .i64 20]):=by
 have l:=Hq (fun W (r:Bw w W)=>show Cr 268 #[D1 d A c,.int .i64 (a:Int)] W (.tuple #["",.int .i64 20]) from by
  have p:=T5 d A c (a:Int) W (h.below r);have e:Lg.Lt d (a:Int)=(⟨#[]⟩,20):=by unfold Lg.Lt;rw[if_pos b]
  rw[e]at p;exact p)
 clear h b;go_enter Tryz.func226,Tryz.ntmps226;go_upto_region 1 with fail;have f:=bP w #[.slice A d.sectors.length c,d.left,d.down] 28;obtain⟨s,g⟩:=E0 f;rw[← g]at f ⊢;clear g;have u:=Hq f.out.Ao;have j:=Hq f.out.below;clear f;go_wp2_with fail
 go_loopw [1,6,7] (fun t o i wr=>i= .int .i64 0∧o= .string ⟨#[]⟩∧t= .int .i64 (a:Int)∧Bw s wr) (fun _ _ i _=>4-(intOf i).toNat)
 case atStart=>exact⟨rfl,rfl,rfl,Below.refl _ _⟩
 case round=>
  obtain⟨rfl,rfl,rfl,k⟩:=hrel;have q:=Hq (j.out.trans (k.mono j.out.size));have m:=Hq (Af u.out k);have v:IntKind.i64.wrap ((a:Int)+0)=(a:Int):=IntWalk.i64_in _ (by omega);have x:IntKind.i64.wrap (a:Int)=(a:Int):=IntWalk.i64_in _ (by omega);have y:(a:Int)+0=(a:Int):=by omega
  have z:¬ (1099511627776:Int)<(a:Int):=by omega
  go_wp2_with(first|with_reducible refine lL m.out Fy ?_|(go_at_call 268;(with_reducible refine(l.out _ q.out).mono ?_);rintro e C ⟨rfl,n⟩))
  go_ret2;exact⟨rfl,Ag q.out n⟩
theorem T6 {M:Nat}(d:Lg.Dk)(e:Uo M d)(A:Option Addr)(c:Nat)(a:Nat)(f:a+4≤M)(g:M≤100000)(w:World)(h:Dd w d A c):
 Cr 226 #[D1 d A c,.int .i64 (a:Int)] w (.tuple #[.string (uQ d a).1,.int .i64 (uQ d a).2]):=by
 unfold uQ
 by_cases b:d.down=true
 ·rw[if_pos b]
  exact Xo d b A c a (by omega) w h
 ·rw[if_neg b]
  exact Xn d e (by simpa using b) A c a f g w h
theorem eH {N n B:Nat}(s:Tx.St)(p:SP)(fs:List Fr)(o:Wf N n B s fs)(pg:Nat)(hp:pg<n)(hN:N≤3000)(w:World)(h:Dd w s.Az p.A p.c):
 Cr 190 #[Ah s p,.int .i64 (pg:Int)] w (.tuple #[.string (Ew s (pg:Int)).1,.int .i64 (Ew s (pg:Int)).2]):=by
 obtain⟨b1,b2⟩:=Vl o (p:=(pg:Int)) (by omega);have hz:=o.zl;have hn:=o.n1;have D:=Hq (fun W=>show Cr 227 #[Ah s p,.int .i64 (pg:Int)] W (.int .i64 ((Ev s (pg:Int):Nat):Int)) from by
  have h9:=dL s p (pg:Int) (by omega) (by omega) W;rw[← b2]at h9;exact h9)
 have g:=Hq (fun W (Q:Bw w W)=>T6 s.Az o.dk p.A p.c (Ev s (pg:Int)) b1 (by omega) W (h.below Q));have G:(s.Az.down=true∧uQ s.Az (Ev s (pg:Int))=(⟨#[]⟩,20)∧Ew s (pg:Int)=(⟨#[]⟩,20))∨(s.Az.down=false∧uQ s.Az (Ev s (pg:Int))=(Ga s.Az (Ev s (pg:Int)),0)∧(Ga s.Az (Ev s (pg:Int))).size≤512∧Ew s (pg:Int)=if Ga s.Az (Ev s (pg:Int))=Jm then(Gi 0,0)else if Hu (Ga s.Az (Ev s (pg:Int)))=true then(Ny (Ga s.Az (Ev s (pg:Int))),0)else(⟨#[]⟩,19)):=by
  cases q:s.Az.down with
  |true=>exact .inl ⟨rfl,by unfold uQ;rw[if_pos q],by unfold Ew;rw[if_pos q]⟩
  |false=>
   have hlen:=o.dk.len;refine .inr ⟨rfl,by unfold uQ;rw[if_neg (by rw[q];decide)],?_,by unfold Ew;rw[if_neg (by rw[q];decide)]⟩;rw[Ve (by omega),ByteArray.size_append,ByteArray.size_append,ByteArray.size_append];have h0:=o.dk.sz _ (List.getElem_mem (show Ev s (pg:Int)<s.Az.sectors.length by omega));have h1:=o.dk.sz _ (List.getElem_mem (show Ev s (pg:Int)+1<s.Az.sectors.length by omega));have h2:=o.dk.sz _ (List.getElem_mem (show Ev s (pg:Int)+2<s.Az.sectors.length by omega));have h3:=o.dk.sz _ (List.getElem_mem (show Ev s (pg:Int)+3<s.Az.sectors.length by omega));omega
 clear h o b1 b2 hz hn hp hN;generalize Ew s (pg:Int)=ld at G ⊢;generalize Ga s.Az (Ev s (pg:Int))=pb at G;generalize uQ s.Az (Ev s (pg:Int))=rd at G g;generalize ((Ev s (pg:Int):Nat):Int)=at_ at D g;obtain⟨C,re⟩:=rd;have E:=Hq G;clear G;simp only at g;go_enter Tryz.func190,Tryz.ntmps190;go_upto_region 1 with fail;have r:=bP w (Ak s p) 36;obtain⟨F,H⟩:=E0 r;rw[← H]at r ⊢;clear H
 go_cut [6,7] (fun x y wc=>x= .string C∧y= .int .i64 re∧Bw F wc)
 case first=>
  have hSn:Bw F F.drew:=(Below.refl _ F).drew;refine G7 (S:=(fun u=>Bw F u)) (fun f=>?_);generalize F.drew=w9 at hSn ⊢;refine Bb 0 ?_;refine uU 1 (some 10) (v:=.agg #[.slice p.A s.Az.sectors.length p.c,s.Az.left,s.Az.down]) rfl (yieldsIf_load_mid (by rfl) 28 (.tmp 9) rfl w.heap.size 3 (by rfl) [.slice p.A s.Az.sectors.length p.c,.int .i64 s.Az.left,.bool s.Az.down] _ (fun u R j v O=>by rw[Aa (Af r.out.Ao R)];rcases j with _|_|_|j<;>simp at O ⊢<;>exact O) Fy Kr Kr) ?_
  try simp only[Act.put,pS]
  refine uU 2 (some 11) (v:=.agg (Ak s p)) rfl (yieldsIf_load_mid (by rfl) 36 (.tmp 2) rfl w.heap.size 0 (by rfl) (Ak s p).toList _ (fun u R=>(by intro j v O;rw[Nat.zero_add,Aa (Af r.out.Ao R)];simpa using O)) Ar Kr Kr) ?_
  try simp only[Act.put,pS]
  refine Bb 3 ?_;refine Dg 4 fun K I=>?_
  go_simp
  (refine(D.out _).mono ?_);rintro e T ⟨rfl,b⟩;have i:=Ag hSn b;clear hSn b;have hSn:=i;clear i
  refine Cw I (fun f=>?_);clear I K;refine Dg 5 fun K I=>?_
  go_simp
  (refine(g.out _ (r.out.below.trans (hSn.mono r.out.below.size))).mono ?_);rintro e w3 ⟨rfl,d⟩;have i:=Ag hSn d;clear hSn d;have hSn:=i;clear i
  refine Cw I (fun f=>?_);clear I K;refine Bb 6 ?_;refine Bb 7 ?_;refine Bb 8 ?_;refine Bb 9 ?_;refine Bb 10 ?_;refine wpAnyH_done Kr ?_ _;clear f;go_wp2_with fail;go_meet
  case rel=>exact⟨rfl,rfl,hSn⟩
 case rest=>
  obtain⟨rfl,rfl,J⟩:=hcut;obtain⟨w1,rfl⟩:=ex wc;have a:=Hq (r.out.below.trans (J.mono r.out.below.size));clear J r D g;rcases E.out with⟨-,L,rfl⟩|⟨-,L,a1,e2⟩
  ·obtain⟨rfl,rfl⟩:=Prod.mk.inj L
   clear L E;go_wp2_with fail;go_ret2;exact⟨rfl,a.out⟩
  ·obtain⟨rfl,rfl⟩:=Prod.mk.inj L
   have P:=Hq e2;clear L E e2;have a6:∀ W:World,(Instr.makeSlice 112 (.int .i64 512) (.int .i64 512)).run Tryz.prog W= .ok (.slice (some ⟨W.heap.size,0,none⟩) 512 512) (W.alloc (.cells (madeCells #[Value.int .u8 0] 512) 5)):=fun W=>Jw 512 (by omega) W;have U:=Jx 512;rw[show(⟨(List.replicate 512 0).toArray⟩:ByteArray)=Jm from rfl]at U;have b:=Ac w1 (.cells (madeCells #[Value.int .u8 0] 512) 5)
   by_cases k:C=Jm
   ·have hq:(C.toList==Jm.toList)=true:=by rw[k];exact beq_self_eq_true _
    have l:=P.out;rw[if_pos k]at l;have M:=Hq l;clear l P;clear k
    go_wp2_with(go_at_call 9;refine(Yr 0 _).mono ?_;rintro e T ⟨rfl,d⟩)
    go_ret2;exact⟨by rw[M.out];rfl,a.out.trans ((b.mono a.out.size).trans (d.mono (Nat.le_trans a.out.size b.size)))⟩
   ·have hq:(C.toList==Jm.toList)=false:=by
     rw[beq_eq_false_iff_ne];intro h;rw[ByteArray.toList_eq,ByteArray.toList_eq]at h;exact k (ByteArray.ext (Array.toList_inj.1 h))
    have l:=P.out;rw[if_neg k]at l;clear P;have t:=Hq (fun W=>Yt C (by omega) W);have V:=Hq (fun W=>Yp C (by omega) W);have X:=Hq (fun m W=>Jy C m (by omega) W)
    cases z:Hu C with
    |true=>
     rw[z]at t l;have M:=Hq (l.trans (if_pos rfl));clear z l
     go_wp2_with(first
      |(go_at_call 228;refine(t.out _).mono ?_;rintro e T ⟨rfl,d⟩)
      |(go_at_call 99;refine(V.out _).mono ?_;rintro e w3 ⟨rfl,Y⟩)
      |(go_at_call 12;refine(X.out _ _).mono ?_;rintro e w4 ⟨rfl,Z⟩))
     go_ret2;have Q:=Ag d (Ag Y Z);exact⟨by rw[M.out];rfl,a.out.trans ((b.mono a.out.size).trans (Q.mono (Nat.le_trans a.out.size b.size)))⟩
    |false=>
     rw[z]at t l;have M:=Hq (l.trans (if_neg (by decide)));clear z l
     go_wp2_with(go_at_call 228;refine(t.out _).mono ?_;rintro e T ⟨rfl,d⟩)
     go_ret2;exact⟨by rw[M.out];rfl,a.out.trans ((b.mono a.out.size).trans (d.mono (Nat.le_trans a.out.size b.size)))⟩
theorem eI (s:Tx.St)(p:SP)(fs:List Fr)(n:p.fn=fs.length)(E:fs.length≤100)(w:World)(D:Reads w p.F p.fc fs.length (fs.flatMap Kw)):
 Cq 229 #[Ah s p] w fun e w'=>((e= .returned (.int .i64 (-1))∧∀ j (hj:j<fs.length),fs[j].bytes≠⟨#[]⟩)∨∃ (k:Nat) (hk:k<fs.length),e= .returned (.int .i64 k)∧fs[k].bytes=⟨#[]⟩∧∀ j (hj:j<fs.length),j<k→fs[j].bytes≠⟨#[]⟩)∧Bw w w':=by
 have G:=Hq D;clear D;have x:=Hq n;clear n;go_enter Tryz.func229,Tryz.ntmps229;go_upto_region 1 with fail;have m:=bP w (Ak s p) 36;obtain⟨y,o⟩:=E0 m;rw[← o]at m ⊢;clear o;have z:=show y.cell? ⟨w.heap.size,11,none⟩=some (.slice p.F fs.length p.fc)from by rw[Aa m.out.Ao,← x.out];rfl
 have q:=Hq m.out.below;have H:=Hq (fun u (I:Bw y u)=>show u.cell? ⟨w.heap.size,11,none⟩=some (.slice p.F fs.length p.fc)from by rw[I.cell (p:=⟨w.heap.size,11,none⟩) (m.out.lt (i:=0) (by simp))];exact z);clear m;go_wp2_with fail
 go_loopw [3] (fun i wr=>∃ k:Nat,k≤fs.length∧i= .int .i64 k∧(∀ j (hj:j<fs.length),j<k→fs[j].bytes≠⟨#[]⟩)∧Bw y wr) (fun i _=>fs.length-(intOf i).toNat)
 case atStart=>exact⟨0,Nat.zero_le _,rfl,fun _ _ h=>absurd h (by omega),Below.refl _ _⟩
 case round=>
  obtain⟨k,hk,rfl,c,d⟩:=hrel;have A:=q.out.trans (d.mono q.out.size);have z:=H.out wr d;have J:(0:Int)≤(k:Int):=by omega
  by_cases r:k<fs.length
  ·have K:(k:Int)<(fs.length:Int):=by omega
   have L:IntKind.i64.wrap ((k:Int)+1)=(k:Int)+1:=IntWalk.i64_in _ (by omega);obtain⟨b,off,B,M,N,a⟩:=Bz Eb (G.out.below A) r;have g:=a 0 _ rfl;have t:=a 1 _ rfl;simp only[Nat.add_zero]at g;clear a;generalize v:fs[k]=f at g t;obtain⟨T,O,U,V,W⟩:=f;simp only at g t;rw[B]at z
   by_cases l:O=⟨#[]⟩
   ·subst l
    have P:=Rj;go_wp2_with fail;go_ret;exact⟨.inr ⟨k,r,rfl,by rw[v],c⟩,A⟩
   ·obtain⟨Q,R,S⟩:=dK l
    go_wp2_with fail;go_roundw
    case rel=>exact⟨k+1,by omega,by go_num,fun j hj C=>by rcases Nat.lt_or_eq_of_le (Nat.le_of_lt_succ C)with h5|h5;(· exact c j hj h5);(· subst h5;rw[v];exact l),d⟩
    case measure=>simp[intOf];omega
  ·obtain rfl:k=fs.length:=by omega
   go_wp2_with fail;go_ret;exact⟨.inl ⟨rfl,fun j hj=>c j hj hj⟩,A⟩
def yJ (p:SP)(fs:List Fr)(x:Px×Nat)(w:World)(e:Ending)(w':World):Prop:=∃ q:SP,e= .returned (.tuple #[Ah x.1.s q,.int .i64 (x.2:Int),x.1.e])∧(x.1.e=0∨x.1.e=20→Am w' x.1.s q x.1.fs)∧Bw w w'∧(q=p∨Ik fs=none)
theorem aR {N n B:Nat}(s:Tx.St)(p:SP)(fs:List Fr)(v:Wf N n B s fs)(_:N≤3000)(m:Ik fs≠none)(w:World)(h:Am w s p fs):
 Cq 191 #[Ah s p] w (yJ p fs (Bq s fs) w):=by
 have y:=v.nf;have c:=Hq (fun W (z:Bw w W)=>eI s p fs h.fn (by omega) W (h.fr.below z));obtain⟨X,o⟩:=ex (Bq s fs);rw[← o];have d:=Hq (fun W (a:Bw w W) (k:Nat) (A:Ik fs=some k)=>show yJ p fs X w (.returned (.tuple #[Ah s p,.int .i64 (k:Int),()])) W from by
  have e:X=(⟨s,fs,0⟩,k):=by rw[o];unfold Bq;rw[A]
  rw[e];exact⟨p,rfl,fun _=>h.below a,a,.inl rfl⟩)
 clear o;generalize yJ p fs X w=Q at d ⊢;clear h v;go_enter Tryz.func191,Tryz.ntmps191;go_upto_region 1 with fail;have b:=Lx w (Ak s p) 36 #[(),(),(),"s",(),false,(),(),(),(),"","s",(),"s",()] 36;obtain⟨G,f⟩:=E0 b;rw[← f]at b ⊢;clear f
 go_upto_region 2 with(first|with_reducible refine lL b.out.Ao Ar ?_|(go_at_call 229;refine(c.out _ b.out.below).mono ?_;rintro e H ⟨q,a⟩;have H1:=Hq (b.out.step a);clear a c b;rcases q with⟨rfl,C⟩|⟨k,hk,rfl,g,i⟩))
 ·exact absurd (dQ fun x D l=>by
   obtain⟨j,r,rfl⟩:=List.getElem_of_mem D;exact l (C j r)) m
 ·have E:(0:Int)≤(k:Int):=by omega
  have t:=Hq (dR hk (fun l=>l g) fun j r u=>fun l=>l (i j r u));clear g i
  go_wp2_with(first
   |with_reducible refine lL H1.out.Ao Ar ?_
   |with_reducible refine lS (Ak s p) H1.out.Aq ?_)
  refine rT3 (.int .i64 (k:Int)) () H1.out.Aq Ar ?_;exact d.out _ (H1.out.row 1 (Ak s p) _ rfl).below k t.out
theorem eJ {N n B:Nat}(s:Tx.St)(p:SP)(fs:List Fr)(b:Wf N n B s fs)(c:N≤3000)(a:Ik fs≠none)(w:World)(h:Am w s p fs):
 Cq 191 #[Ah s p] w (xK (Bq s fs) w):=(aR s p fs b c a w h).mono fun _ _ ⟨q,d,e,f,_⟩=>⟨q,d,e,f⟩
theorem T7 (s:Tx.St)(p:SP)(s2:Tx.St)(c:SP)(x:Int)(w:World):
 Cr 192 #[Ah s p,Ah s2 c,x] w (if x=20 then Ah s2 c else Ah s p):=by
 by_cases d:x=20
 ·rw[if_pos d]
  have e:(x==20)=true:=by rw[d];rfl
  clear d;go_enter Tryz.func192,Tryz.ntmps192;go_upto_region 1 with fail;have a:=Ol w (Ak s p) 36 (Ak s2 c) 36 #[(),(),(),"s",(),false,(),(),(),(),"","s",(),"s",()] 36;obtain⟨f,b⟩:=E0 a;rw[← b]at a ⊢;clear b
  go_wp2_with(first|with_reducible refine lL a.out.Aq Ar ?_|with_reducible refine lS (Ak s2 c) a.out.Cd ?_)
  refine rT1 a.out.Cd Ar ?_;exact⟨rfl,(a.out.row 2 (Ak s2 c) _ rfl).below⟩
 ·rw[if_neg d]
  have e:(x==20)=false:=beq_eq_false_iff_ne.2 d;clear d;go_enter Tryz.func192,Tryz.ntmps192;go_upto_region 1 with fail;have a:=Ol w (Ak s p) 36 (Ak s2 c) 36 #[(),(),(),"s",(),false,(),(),(),(),"","s",(),"s",()] 36;obtain⟨f,b⟩:=E0 a;rw[← b]at a ⊢;clear b
  go_wp2_with(first|with_reducible refine lL a.out.Ao Ar ?_|with_reducible refine lS (Ak s p) a.out.Cd ?_)
  refine rT1 a.out.Cd Ar ?_;exact⟨rfl,(a.out.row 2 (Ak s p) _ rfl).below⟩
theorem Vv {N n B:Nat}(s:Tx.St)(p:SP)(fs:List Fr)(hW:Wf N n B s fs)(hN:N≤3000)(bb:Ik fs≠none)(pg:Int)(w:World)(h:Am w s p fs):
 Cq 150 #[Ah s p,pg] w (vL (Ns s fs pg) w):=by
 have aq:=hW.nf;have ar:fs.length≤100:=by omega
 have au:=hW.zp;have V:=Hq (fun W=>aA s p pg W);obtain⟨X,hX⟩:=ex (Ns s fs pg);rw[← hX]
 by_cases L:0≤pg∧pg<s.zpages
 ·rw[decide_eq_true L]at V
  obtain⟨a,rfl⟩:∃ a:Nat,pg=(a:Int):=⟨pg.toNat,by omega⟩;have hh:Oj s (a:Int):=L;have av:=Hq (fun W (D:Bw w W)=>gC s p fs h.fn ar (a:Int) W (h.fr.below D));have Z:=Hq (fun W (D:Bw w W)=>eH s p fs hW a (by omega) hN W (h.st.dk.below D));have O:=Hq (fun W (D:Bw w W)=>eJ s p fs hW hN bb W (h.below D));have a1:=Hq (fun k hk f W (D:Bw w W)=>Lm s p fs ar k hk f W (h.below D));have bc:=Hq h.fn;have HP:=Hq h;have ag:=Hq (fun k (hk:k<fs.length) (h1:fs[k].bytes≠⟨#[]⟩) (h2:fs[k].Ad=(a:Int))=>show Xy fs (a:Int)=some k from pV hk ⟨h1,h2⟩ fun j hj bs hc=>hW.ds j k hj hk (by omega) hc.1 h1 (hc.2.trans h2.symm));have a6:=tG hW;have P:=Hq (fun W (e:Int) (D:Bw w W)=>show X=(⟨s,fs,e⟩,⟨#[]⟩)→vL X w (.returned (.tuple #[Ah s p,"",e])) W from fun he=>by rw[he];exact⟨p,rfl,h.below D,D⟩);have ae:=Hq (fun(Y:Px×ByteArray) (he:X=Y) w' (q:SP) (hp:Am w' Y.1.s q Y.1.fs) (D:Bw w w')=>show vL X w (.returned (.tuple #[Ah Y.1.s q,Y.2,Y.1.e])) w' from by rw[he];exact⟨q,rfl,hp,D⟩);have ah:=Hq (fun k (ha:Xy fs (a:Int)=some k) (hk:k<fs.length)=>show X=(⟨s,fs.set k {fs[k]with mark:=true},0⟩,fs[k].bytes)from by
   have e:Bj s fs (a:Int)=(⟨s,fs.set k {fs[k]with mark:=true},0⟩,k):=(by unfold Bj;rw[if_neg (fun hn=>hn hh),ha];simp only;rw[Cu hk]);rw[hX];unfold Ns;rw[e];simp only;rw[if_pos trivial,Cu (by rw[List.length_set];exact hk),List.getElem_set_self])
  have R:=Hq (fun(ha:Xy fs (a:Int)=none) (hl:¬ (Ew s (a:Int)).2=0)=>show X=(⟨s,fs,(Ew s (a:Int)).2⟩,⟨#[]⟩)from by
   have e:Bj s fs (a:Int)=(⟨s,fs,(Ew s (a:Int)).2⟩,0):=(by unfold Bj;rw[if_neg (fun hn=>hn hh),ha];simp only;rw[if_pos hl]);rw[hX];unfold Ns;rw[e];simp only;rw[if_neg hl])
  have d:=Hq (fun(ha:Xy fs (a:Int)=none) (hl:(Ew s (a:Int)).2=0) (hr:¬ (Bq s fs).1.e=0)=>show X=(Hd s fs (Bq s fs).1,⟨#[]⟩)∧(Hd s fs (Bq s fs).1).e=(Bq s fs).1.e from by
   have e:Bj s fs (a:Int)=(Hd s fs (Bq s fs).1,0):=(by unfold Bj;rw[if_neg (fun hn=>hn hh),ha];simp only;rw[if_neg (fun hn=>hn hl),if_neg hr]);have e2:(Hd s fs (Bq s fs).1).e=(Bq s fs).1.e:=(by unfold Hd;split<;>rfl);refine⟨?_,e2⟩;rw[hX];unfold Ns;rw[e];simp only;rw[if_neg (by rw[e2];exact hr)])
  have z:=Hq (fun(ha:Xy fs (a:Int)=none) (hl:(Ew s (a:Int)).2=0) (hr:(Bq s fs).1.e=0)=>show X=(⟨(Bq s fs).1.s,(Bq s fs).1.fs.set (Bq s fs).2 ⟨(a:Int),(Ew s (a:Int)).1,0,true,0⟩,0⟩,(Ew s (a:Int)).1)from by
   have e:Bj s fs (a:Int)=(⟨(Bq s fs).1.s,(Bq s fs).1.fs.set (Bq s fs).2 ⟨(a:Int),(Ew s (a:Int)).1,0,true,0⟩,0⟩,(Bq s fs).2):=(by unfold Bj;rw[if_neg (fun hn=>hn hh),ha];simp only;rw[if_neg (fun hn=>hn hl),if_pos hr]);rw[hX];unfold Ns;rw[e];simp only;rw[if_pos trivial,Cu (by rw[List.length_set];exact a6.2),List.getElem_set_self])
  clear hX hW hh h au L aq;generalize vL X w=Q at P ae ⊢;generalize Ew s (a:Int)=l at Z R d z;obtain⟨lb,le⟩:=l;simp only at Z R d z;have m:=Hq (show Hd s fs (Bq s fs).1=if(Bq s fs).1.e=0∨(Bq s fs).1.e=20 then(Bq s fs).1 else⟨s,fs,(Bq s fs).1.e⟩from rfl);generalize Hd s fs (Bq s fs).1=bk at d m;generalize Bq s fs=r at O d z a6 m;obtain⟨⟨xs,aw,xe⟩,xk⟩:=r;simp only at O d z a6 m;go_enter Tryz.func150,Tryz.ntmps150;go_upto_region 1 with fail;have H0:=Lx w (Ak s p) 36 #[(),(),(),"s",(),false,(),(),(),(),"","s",(),"s",()] 36;obtain⟨W0,a7⟩:=E0 H0;rw[← a7]at H0 ⊢;clear a7
  go_upto_region 3 with(first|with_reducible refine lL H0.out.Ao Ar ?_|(go_at_call 187;refine(V.out _).mono ?_;rintro e w1 ⟨rfl,af⟩;have H1:=Hq (H0.out.step af)))
  go_upto_region 4 with(first|with_reducible refine lL H1.out.Ao Ar ?_|(go_at_call 188;refine(av.out _ H1.out.below).mono ?_;rintro e w2 ⟨bd,ax⟩;have H2:=Hq (H1.out.step ax);clear af ax H0 H1 V av;rcases bd with⟨rfl,hq⟩|⟨k,hk,rfl,ay,az⟩))
  ·have bt:¬ (0:Int)≤-1:=by decide
   have ai:=Hq (show Xy fs (a:Int)=none from pU fun x hx hc=>by
    obtain⟨j,hj,rfl⟩:=List.getElem_of_mem hx;exact hq j hj hc.1 hc.2)
   clear hq a1 ah ag
   go_upto_region 9 with(first|with_reducible refine lL H2.out.Ao Ar ?_|(go_at_call 190;refine(Z.out _ H2.out.below).mono ?_;rintro e w3 ⟨rfl,b0⟩;have H3:=Hq (H2.out.step b0)))
   clear b0 H2 Z
   by_cases T:le=0
   ·have bf:(le != 0)=false:=by rw[T];rfl
    have b1:=Hq T;clear T R
    go_upto_region 12 with(first
     |with_reducible refine lL H3.out.Ao Ar ?_
     |(go_at_call 191;refine(O.out _ H3.out.below).mono ?_;rintro e w4 ⟨q,rfl,b2,aj⟩)
     |with_reducible refine sN (Ak xs q) ?_)
    have a8:=aj.trans ((Ac w4 (.cells (Ak xs q) 36)).mono aj.size);have H5:=Hq (H3.out.step a8);have o:=Hq (heap_alloc_new w4 (.cells (Ak xs q) 36));have U:=Hq (fun hx=>(b2 hx).below (Ac w4 (.cells (Ak xs q) 36)));obtain⟨g,hg⟩:=ex w4.heap.size;obtain⟨w5,A⟩:=ex (w4.alloc (.cells (Ak xs q) 36));rw[← hg,← A]at o;rw[← A]at H5 U;rw[← A,← hg];clear A hg aj a8 H3 O b2
    try simp only[Act.put]
    by_cases C:xe=0
    ·have bg:(xe != 0)=false:=by rw[C];rfl
     have c:=Hq (z.out ai.out b1.out C);have ak:=Hq (U.out (.inl C));clear C U d z m;have a1:=Hq (show ∀ W,Am W xs q aw→_ from fun W hp=>Lm xs q aw a6.1 xk a6.2 ⟨(a:Int),lb,0,true,0⟩ W hp)
     go_wp2_with(first
      |with_reducible refine lL o.out Ar ?_
      |(go_at_call 189;refine(a1.out _ ak.out).mono ?_;rintro e w6 ⟨q6,rfl,al,E⟩;have G:=Hq (H5.out.step E))
      |with_reducible refine lS (Ak xs q6) G.out.Aq ?_)
     refine rT3 lb () G.out.Aq Ar ?_;exact ae.out _ c.out _ q6 (al.other (t:=36) G.out.Aq (by decide) (by decide) (by decide) _) (G.out.row 1 (Ak xs q6) _ rfl).below
    ·have bg:(xe != 0)=true:=by rw[bne_iff_ne];exact C
     obtain⟨b3,b4⟩:=d.out ai.out b1.out C;have c:=Hq b3;clear z d b3
     by_cases H:xe=20
     ·have an:=Hq (fun W=>show Cr 192 #[Ah s p,Ah xs q,xe] W (Ah xs q) from by
       have h0:=T7 s p xs q xe W;rw[if_pos H]at h0;exact h0)
      have ak:=Hq (U.out (.inr H));have aa:=m.out;rw[if_pos (.inr H)]at aa;subst aa;clear C H U m b4
      go_wp2_with(first
       |with_reducible refine lL H5.out.Ao Ar ?_
       |with_reducible refine lL o.out Ar ?_
       |(go_at_call 192;refine(an.out _).mono ?_;rintro e w6 ⟨rfl,E⟩;have G:=Hq (H5.out.step E))
       |with_reducible refine lS (Ak xs q) G.out.Aq ?_)
      refine rT3 "" xe G.out.Aq Ar ?_;exact ae.out _ c.out _ q ((ak.out.below E).other (t:=36) G.out.Aq (by decide) (by decide) (by decide) _) (G.out.row 1 (Ak xs q) _ rfl).below
     ·have an:=Hq (fun W=>show Cr 192 #[Ah s p,Ah xs q,xe] W (Ah s p) from by
       have h0:=T7 s p xs q xe W;rw[if_neg H]at h0;exact h0)
      have aa:=m.out;rw[if_neg (fun h=>h.elim C H)]at aa;subst aa;clear C H U m b4
      go_wp2_with(first
       |with_reducible refine lL H5.out.Ao Ar ?_
       |with_reducible refine lL o.out Ar ?_
       |(go_at_call 192;refine(an.out _).mono ?_;rintro e w6 ⟨rfl,E⟩;have G:=Hq (H5.out.step E))
       |with_reducible refine lS (Ak s p) G.out.Aq ?_)
      refine rT3 "" xe G.out.Aq Ar ?_;exact P.out _ xe (G.out.row 1 (Ak s p) _ rfl).below c.out
   ·have bf:(le != 0)=true:=by rw[bne_iff_ne];exact T
    have c:=Hq (R.out ai.out T);clear T R d z O m
    go_wp2_with(first|with_reducible refine lL H3.out.Ao Ar ?_|with_reducible refine lS (Ak s p) H3.out.Aq ?_)
    refine rT3 "" le H3.out.Aq Ar ?_;exact P.out _ le (H3.out.row 1 (Ak s p) _ rfl).below c.out
  ·have bu:(0:Int)≤(k:Int):=by omega
   have bw:(k:Int)<(fs.length:Int):=(by omega);have c:=Hq (ah.out k (ag.out k hk ay az) hk);have hc:=show w2.cell? ⟨w.heap.size,11,none⟩=some (.slice p.F fs.length p.fc)from(by rw[Aa H2.out.Ao,← bc.out];rfl);obtain⟨b,off,b5,bh,bj,I⟩:=Bz Eb (HP.out.fr.below H2.out.below) hk;obtain⟨f,b6⟩:=ex (fs[k]);rw[← b6]at I c;rw[b5]at hc;have b7:=Hq (show w2.rangeAt b (off+k*5) (Kw f)from I);clear I bh bj b5 b6 ay az Z O ah R d z m ag
   go_upto_region 6 with(first
    |(refine Da Kr fun K hK=>wp_load_mid 108 (.tmp 28) rfl b (off+k*5) rfl (Kw f) _ b7.out Gy Kr Kr (hK _ _ ?_))
    |with_reducible refine sN (Fs f) ?_)
   have a8:=Ac w2 (.cells (Fs f) 108);have H5:=Hq (H2.out.step a8);have o:=Hq (heap_alloc_new w2 (.cells (Fs f) 108));have bl:w.heap.size+1<w2.heap.size:=H2.out.lt (i:=1) (by simp);obtain⟨g,hg⟩:=ex w2.heap.size;obtain⟨w5,A⟩:=ex (w2.alloc (.cells (Fs f) 108));rw[← hg,← A]at o;rw[← A]at H5;rw[← A,← hg];rw[← hg]at bl;clear A hg a8 H2 hc b7
   try simp only[Act.put]
   have bm:=show w5.cell? ⟨g,3,none⟩=some (.bool f.mark)from(by rw[Aa o.out];rfl);have bn:=Ap o.out 3;go_upto_region 7 with fail;have b8:=Hq (show(w5.setCell ⟨g,3,none⟩ (.bool true)).heap[g]? =some (.cells (Fs {f with mark:=true}) 108 (0,0))from by have:=Cp 3 o.out (.bool true);simpa using this);have G:=Hq (H5.out.under (M:=g) (by simp;omega) ((Below.refl _ w5).setCell (p:=⟨g,3,none⟩) (Nat.le_refl _) (.bool true)));generalize w5.setCell ⟨g,3,none⟩ (.bool true)=w6 at b8 G ⊢;clear bm bn o H5;have bo:=Hq (fun W D=>a1.out k hk {f with mark:=true} W D);clear a1
   try simp only[Act.put]
   go_cut [5,6] (fun x y wc=>x= .string f.bytes∧y= .int .i64 0∧∃ q:SP,wc.heap[w.heap.size+1]? =some (.cells (Ak s q) 36 (0,0))∧Am wc s q (fs.set k {f with mark:=true})∧Bw w wc)
   case first=>
    have hSn:w6.drew.heap[w.heap.size]? =some (.cells (Ak s p) 36 (0,0))∧w6.drew.heap[g]? =some (.cells (Fs {f with mark:=true}) 108 (0,0)):=⟨G.out.Ao,b8.out⟩;have H9:=G.out.drew;have Hy:=Hq (fun(u:World) (bp:u.heap[w.heap.size]? =some (.cells (Ak s p) 36 (0,0))∧u.heap[g]? =some (.cells (Fs {f with mark:=true}) 108 (0,0)))=>(show u.cell? ⟨g,1,none⟩=some (.string f.bytes)from(by rw[Aa bp.2];rfl)));refine G7 (S:=(fun u=>u.heap[w.heap.size]? =some (.cells (Ak s p) 36 (0,0))∧u.heap[g]? =some (.cells (Fs {f with mark:=true}) 108 (0,0)))) (fun J=>?_);generalize w6.drew=w9 at hSn H9 ⊢;refine fA 0 Ar ?_;refine Bb 1 ?_;refine fA 2 Gy ?_;refine Bb 4 ?_;refine Bb 5 ?_;refine Dg 3 fun K hK=>?_
    go_simp
    (refine(bo.out _ H9.below).mono ?_);rintro e w7 ⟨q,rfl,bq,ao⟩;have H8:=H9.step ao;have ad:=And.intro (Af hSn.1 ao) (Af hSn.2 ao);clear hSn;have hSn:=ad;clear ad
    refine Cw hK (fun J=>?_);clear hK K;refine Dg 6 fun K hK=>?_;refine Cc (by rfl) ?_;refine sW (Ak s q) H8.Aq ?_;have b9:=H8.row 1 (Ak s q) _ rfl;have ba:=bq.other (t:=36) H8.Aq (by decide) (by decide) (by decide) (Ak s q);have ad:=And.intro ((Ae _ _ (Ak s q) _ (show w.heap.size≠w.heap.size+1 by omega)).trans hSn.1) ((Ae _ _ (Ak s q) _ (show g≠w.heap.size+1 by omega)).trans hSn.2);clear hSn;have hSn:=ad;clear ad;refine Cw hK (fun J=>?_);clear hK K;refine Bb 7 ?_;refine Bb 8 ?_;refine wpAnyH_done Kr ?_ _;clear J;go_wp2_with fail;go_meet
    case rel=>exact⟨rfl,rfl,q,b9.Aq,ba,b9.below⟩
   case rest=>
    obtain⟨rfl,rfl,q,br,al,E⟩:=hcut;go_wp2_with fail;refine bodyPost_ret (v:=.tuple #[.agg (Ak s q),f.bytes,()]) (Nt rfl _ _ rfl (Cf br Ar Kr Kr) rfl rfl) rfl ?_;exact ae.out _ c.out _ q al E
 ·rw[decide_eq_false L]at V
  have c:=Hq (show X=(⟨s,fs,1⟩,⟨#[]⟩)from by
   have e:Bj s fs pg=(⟨s,fs,1⟩,0):=(by unfold Bj;rw[if_pos (show ¬ Oj s pg from L)]);rw[hX];unfold Ns;rw[e];simp only;rw[if_neg (by decide)])
  have P:=Hq (fun W (D:Bw w W)=>show vL X w (.returned (.tuple #[Ah s p,"",.int .i64 1])) W from by rw[c.out];exact⟨p,rfl,h.below D,D⟩);generalize vL X w=Q at P ⊢;clear hX hW h L au aq c;go_enter Tryz.func150,Tryz.ntmps150;go_upto_region 1 with fail;have H0:=Lx w (Ak s p) 36 #[(),(),(),"s",(),false,(),(),(),(),"","s",(),"s",()] 36;obtain⟨W0,a7⟩:=E0 H0;rw[← a7]at H0 ⊢;clear a7
  go_upto_region 2 with(first|with_reducible refine lL H0.out.Ao Ar ?_|(go_at_call 187;refine(V.out _).mono ?_;rintro e w1 ⟨rfl,af⟩;have H1:=Hq (H0.out.step af)))
  go_wp2_with(first|with_reducible refine lL H1.out.Ao Ar ?_|with_reducible refine lS (Ak s p) H1.out.Aq ?_)
  refine rT3 "" (.int .i64 1) H1.out.Aq Ar ?_;exact P.out _ (H1.out.row 1 (Ak s p) _ rfl).below
end Go.Proofs.YtmfkhdhnbkambaaGreatDoor
