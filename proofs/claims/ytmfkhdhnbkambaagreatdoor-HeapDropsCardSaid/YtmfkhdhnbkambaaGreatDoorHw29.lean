import Derived.Test.YtmfkhdhnbkambaaGreatDoorHw00
import Derived.Test.YtmfkhdhnbkambaaGreatDoorHw02
import Derived.IntWalk
import Derived.Test.YtmfkhdhnbkambaaGreatDoorHw28
set_option maxRecDepth 100000
set_option maxHeartbeats 16000000
set_option linter.unusedSimpArgs false
namespace Go.Proofs.YtmfkhdhnbkambaaGreatDoor
open Go.RowKit
theorem N5 (x:Pg.Ct)(A:Option Addr)(c:Nat)(q:x.Ai.length≤1099511627776)(w:World)(h:Cells w A c x.Ai):
 Cr 111 #[Fv x A c] w (.int .i64 (Pg.Db x.Ai:Nat)):=by
 have o:=Hq (h.below ((Below.refl w.heap.size w).alloc (Nat.le_refl _) (.cells #[x.lsn,x.kind,x.link,.slice A x.Ai.length c] 151 (0,0))));clear h;go_enter Tryz.func111,Tryz.ntmps111;go_wp2_with fail
 go_loop [8] (fun i=>∃ k:Nat,k≤x.Ai.length∧i= .int .i64 k∧Pg.Db x.Ai=k+Pg.Db (x.Ai.drop k)) (fun i=>x.Ai.length-(intOf i).toNat)
 case atStart=>exact⟨0,Nat.zero_le _,rfl,by simp⟩
 case round=>
  obtain⟨k,hk,rfl,l⟩:=hrel;have g:=Hq l;clear l
  by_cases e:k<x.Ai.length
  ·obtain⟨b,off,rfl,s,p,a⟩:=o.out.at_ e
   have m:=Hq (Pg.nJ x.Ai k e);obtain⟨r,j⟩:=ex (x.Ai[k]);rw[← j]at a;have n:=Hq j;clear j;have f:r.toList.isEmpty=decide (r.size=0):=F8 r
   by_cases d:r.size=0
   ·rw[decide_eq_true d]at f
    have HV:=Hq (show Pg.Db x.Ai=k by rw[g.out,m.out,← n.out,if_pos d];rfl);clear d;go_wp2_with fail;go_ret;exact⟨by rw[HV.out];rfl,(Below.refl _ _).alloc (Nat.le_refl _) _⟩
   ·rw[decide_eq_false d]at f
    have HV:=Hq (show Pg.Db x.Ai=(k+1)+Pg.Db (x.Ai.drop (k+1)) by rw[g.out,m.out,← n.out,if_neg d];omega);clear d;go_wp2_with fail
    go_round
    case rel=>exact⟨k+1,by omega,by go_num,HV.out⟩
    case measure=>simp[intOf];omega
  ·obtain rfl:k=x.Ai.length:=by omega
   have HV:=Hq (show Pg.Db x.Ai=x.Ai.length by rw[g.out,List.drop_length];rfl);go_wp2_with fail;go_ret;exact⟨by rw[HV.out];rfl,(Below.refl _ _).alloc (Nat.le_refl _) _⟩
theorem qW (p:ByteArray)(j:p.size≤140737488355328)(w:World):
 Cr 54 #[p] w (.int .i64 (Pg.Db (Ab p).Ai:Nat)):=by
 have a:=Hq (fun W=>Ef p j W);have h:(Ab p).Ai.length≤1099511627776:=by have:=(Pg.Ib p.data.toList).len;unfold Ab;omega
 have i:=Hq (fun A c W k=>N5 (Ab p) A c h W k);generalize Bk p=b at a;generalize Ab p=x at a i h ⊢;go_enter Tryz.func54,Tryz.ntmps54
 go_wp2_with(first|(go_at_call 109;refine(a.out _).mono ?_;rintro e l ⟨A,c,rfl,d,f⟩)|(go_at_call 111;refine(i.out _ _ _ (d.cells.below ((Below.refl _ _).alloc (Nat.le_refl _) _))).mono ?_;rintro e m ⟨rfl,g⟩))
 go_ret;exact⟨rfl,andThen (At f) g⟩
theorem eR (x:Pg.Ct)(A:Option Addr)(c:Nat)(b:x.Ai.length≤1099511627776)(X:Nat)(a u:World)(h:Kl X x A c a u):
 Cq 111 #[Fv x A c] u fun e w'=>e= .returned (.int .i64 (Pg.Db x.Ai:Nat))∧Kl X x A c a w':=
 (N5 x A c b u h.2.2.2.2.1).mono fun _ _ ⟨d,f⟩=>⟨d,h.step f⟩
theorem qX (p:ByteArray)(u:p.size≤140737488355328)(w:World):
 Cr 53 #[p] w (.int .i64 (Jf p)):=by
 have g:=Hq (fun W=>Ef p u W);have a:=Pg.Ib p.data.toList;change Pg.Ou (Ab p)at a;unfold Jf
 cases k:Bk p with
 |false=>
  rw[k]at g;generalize Ab p=x at g;clear k a;go_enter Tryz.func53,Tryz.ntmps53
  go_wp2_with(go_at_call 109;refine(g.out _).mono ?_;rintro e h ⟨A,c,rfl,b,d⟩)
  go_ret;exact⟨rfl,At d⟩
 |true=>
  rw[k]at g;generalize Ab p=x at g a ⊢;clear k;rw[if_pos rfl];have l:Pg.Ay x.Ai≤60000:=a.Ay;have hlen:x.Ai.length≤123:=a.len;have m:Pg.Db x.Ai≤x.Ai.length:=Pg.Ru _;have r:=Hq (show Pg.Ay x.Ai=19+4*x.Ai.length+Pg.An x.Ai from rfl);have j:=Hq (fun A c W n=>Rw A c x.Ai (by omega) W n);have t:=Hq (fun A c X v W n=>eR x A c (by omega) X v W n);obtain⟨S,i⟩:=ex (Pg.Ay x.Ai);rw[← i]at j l r;obtain⟨f,o⟩:=ex (Pg.Db x.Ai);rw[← o]at t m;unfold Je;rw[← o];clear i o a;go_enter Tryz.func53,Tryz.ntmps53
  go_upto_region 5 with(first|(go_at_call 109;refine(g.out _).mono ?_;rintro e h ⟨A,c,rfl,b,d⟩)|(go_at_call 110;refine(j.out A c _ (b.cells.below ((Below.refl _ _).alloc (Nat.le_refl _) _))).mono ?_;rintro e B ⟨rfl,rfl⟩))
  have y:=Hq (rX h x A c 151 b.cells)
  go_cut [22] (fun s q=>s= .bool ((f:Int)==x.Ai.length)∧Kl h.heap.size x A c (h.alloc (.cells #[x.lsn,x.kind,x.link,.slice A x.Ai.length c] 151)) q)
  case first=>
   go_region_held3 (fun q=>Kl h.heap.size x A c (h.alloc (.cells #[x.lsn,x.kind,x.link,.slice A x.Ai.length c] 151)) q) (first|assumption|exact y.out.drew) (first|(go_at_call 111;refine(t.out _ _ _ _ _ (by assumption)).mono ?_;rintro e C ⟨rfl,i⟩))
   go_wp2_with fail;go_meet
   case rel=>exact⟨rfl,i⟩
  case rest=>
   obtain⟨rfl,i⟩:=hcut;go_wp2_with fail
   all_goals
    rename_i z
    go_ret;refine⟨fF ?_,?_⟩
    ·have:=r.out
     simp only[beq_iff_eq,beq_eq_false_iff_ne,ne_eq]at z;omega
    ·exact andThen (At d) i.2.2.2.2.2.2
open Sc
structure Rm (M G:Nat) (rec:ByteArray) (last a b:Int) (f:Bool) (u:World):Prop where
 hg:M+4≤G
 b1:u.heap[M+1]? =some (.cells #[rec] 9 (0,0))
 b3:u.heap[M+3]? =some (.cells #[(),()] 44 (0,0))
 b4:u.heap[G]? =some (.cells #[a,b] 44 (0,0))
 b5:u.heap[G+1]? =some (.cells #[last] 3 (0,0))
 b6:u.heap[G+2]? =some (.cells #[f] 4 (0,0))
section
variable {M G : Nat} {rec : ByteArray} {last a b : Int} {f : Bool} {u : World}
theorem Rm.below {v:World}(h:Rm M G rec last a b f u)(c:Bw u v):Rm M G rec last a b f v:=
 ⟨h.hg,Af h.b1 c,Af h.b3 c,Af h.b4 c,Af h.b5 c,Af h.b6 c⟩
theorem Rm.other (h:Rm M G rec last a b f u){g:Nat}{cs:Array Value}(d:u.heap[g]? =some (.cells cs 36 (0,0)))(cs':Array Value):Rm M G rec last a b f (u.setRow g cs'):=by
 have e:∀ {k:Nat} {c0:Array Value} {t:TypeId},u.heap[k]? =some (.cells c0 t (0,0))→t≠36→(u.setRow g cs').heap[k]? =some (.cells c0 t (0,0)):=fun{k c0 t} c i=>by
  refine(Ae _ _ _ _ (fun e=>?_)).trans c;rw[e,d]at c;injection c with c;injection c with _ c;exact i c.symm
 exact⟨h.hg,e h.b1 (by decide),e h.b3 (by decide),e h.b4 (by decide),e h.b5 (by decide),e h.b6 (by decide)⟩
theorem Rm.zN (h:Rm M G rec last a b f u)(x:Int):Rm M G rec x a b f (u.setRow (G+1) #[x]):=
 ⟨h.hg,(Ae _ _ _ _ (by have:=h.hg;omega)).trans h.b1,(Ae _ _ _ _ (by have:=h.hg;omega)).trans h.b3,(Ae _ _ _ _ (by have:=h.hg;omega)).trans h.b4,setRow_heap _ _ _ _ _ _ h.b5,(Ae _ _ _ _ (by have:=h.hg;omega)).trans h.b6⟩
theorem Rm.at_ (h:Rm M G rec last a b f u)(x y:Int):Rm M G rec last x y f (u.setRow G #[x,y]):=
 ⟨h.hg,(Ae _ _ _ _ (by have:=h.hg;omega)).trans h.b1,(Ae _ _ _ _ (by have:=h.hg;omega)).trans h.b3,setRow_heap _ _ _ _ _ _ h.b4,(Ae _ _ _ _ (by have:=h.hg;omega)).trans h.b5,(Ae _ _ _ _ (by have:=h.hg;omega)).trans h.b6⟩
theorem Rm.yes (h:Rm M G rec last a b f u)(x:Bool):Rm M G rec last a b x (u.setRow (G+2) #[x]):=
 ⟨h.hg,(Ae _ _ _ _ (by have:=h.hg;omega)).trans h.b1,(Ae _ _ _ _ (by have:=h.hg;omega)).trans h.b3,(Ae _ _ _ _ (by have:=h.hg;omega)).trans h.b4,(Ae _ _ _ _ (by have:=h.hg;omega)).trans h.b5,setRow_heap _ _ _ _ _ _ h.b6⟩
end
def gV (M G:Nat)(rec:ByteArray)(pg:Int)(cp:ByteArray)(u:World)(e:Ending)(u':World):Prop:=
 e= .returned (.bool (!decide ((rec.size:Int)≤Jf cp)))∧(if(rec.size:Int)≤Jf cp then Rm M G rec pg pg (Pg.Db (Ab cp).Ai:Nat) true u' else Rm M G rec pg 0 0 false u')∧Cl M u u'
theorem eS (M G:Nat)(pg:Int)(d:ByteArray)(k:d.size≤140737488355328)(rec:ByteArray)(last:Int)(u:World)(h:Rm M G rec last 0 0 false u):
 Cq 52 #[pg,d,.pointer (some ⟨G+1,0,none⟩),.pointer (some ⟨M+1,0,none⟩),.pointer (some ⟨G,0,none⟩),.pointer (some ⟨G+2,0,none⟩)] u (gV M G rec pg d u):=by
 have l:=Hq (fun W=>qX d k W);have x:=Hq (fun W=>qW d k W);have s:=Hq (fun(j:(rec.size:Int)≤Jf d) E F H=>show gV M G rec pg d u (.returned (.bool false)) E from⟨by rw[decide_eq_true j];rfl,by rw[if_pos j];exact F,H⟩);have t:=Hq (fun(j:¬ (rec.size:Int)≤Jf d) E F H=>show gV M G rec pg d u (.returned (.bool true)) E from⟨by rw[decide_eq_false j];rfl,by rw[if_neg j];exact F,H⟩);generalize gV M G rec pg d u=Q at s t ⊢;generalize Jf d=rm at l s t;generalize ((Pg.Db (Ab d).Ai:Nat):Int)=fn at x s t;have w:=Hq h;have I:=show u.cell? ⟨G+1,0,none⟩=some (.int .i64 last)from by rw[Aa h.b5];rfl
 have J:=Ap h.b5 0;clear h k;go_enter Tryz.func52,Tryz.ntmps52;go_upto_region 2 with fail;have y:u.setCell ⟨G+1,0,none⟩ (.int .i64 pg)=u.setRow (G+1) #[pg]:=setCell_eq_setRow u (G+1) 0 _ _ _ _ w.out.b5;rw[y];have a:=Hq (w.out.zN pg);have m:=Hq ((Cl.of (B:=M) (Below.refl u.heap.size u) (by have:=w.out.hg;have:=Bt w.out.b5;omega)).box (by have:=w.out.hg;omega) w.out.b5 rfl (by decide) #[pg]);generalize u.setRow (G+1) #[pg]=u2 at a m ⊢;clear I J y
 try simp only[Act.put]
 have hSn:Bw u2 u2.drew:=(Below.refl _ u2).drew;refine G7 (S:=(fun v=>Bw u2 v)) (fun f=>?_);generalize u2.drew=v7 at hSn ⊢;refine Bb 0 ?_ (hy:=by intro v g;have n:=show v.cell? ⟨M+1,0,none⟩=some (.string rec)from(by rw[Aa (Af a.out.b1 g)];rfl);clear g;go_simp;(try with_reducible rfl));refine Bb 2 ?_ (hy:=by intro v g;have n:=show v.cell? ⟨M+1,0,none⟩=some (.string rec)from(by rw[Aa (Af a.out.b1 g)];rfl);clear g;go_simp;(try with_reducible rfl));refine Bb 3 ?_ (hy:=by intro v g;have n:=show v.cell? ⟨M+1,0,none⟩=some (.string rec)from(by rw[Aa (Af a.out.b1 g)];rfl);clear g;go_simp;(try with_reducible rfl));refine Dg 1 fun K R=>?_
 go_simp
 (refine(l.out _).mono ?_);rintro e T ⟨rfl,L⟩;have z:=Ag hSn L;clear hSn;have hSn:=z;clear z
 refine Cw R (fun f=>?_);clear R K;refine Bb 4 ?_ (hy:=by intro v g;have n:=show v.cell? ⟨M+1,0,none⟩=some (.string rec)from(by rw[Aa (Af a.out.b1 g)];rfl);clear g;go_simp;(try with_reducible rfl));refine wpAnyH_done Kr ?_ _
 try clear f
 try simp only[Act.put]
 have b:=Hq (a.out.below hSn);have o:=Hq (m.out.trans (Cl.of (B:=M) hSn (by have:=a.out.hg;have:=Bt a.out.b5;omega)));clear hSn a m l
 by_cases j:(rec.size:Int)≤rm
 ·have N:=Hq (s.out j)
  clear s t
  go_upto_region 4 with(first
   |(go_at_call 54;refine(x.out _).mono ?_;rintro e D ⟨rfl,p⟩;have i:=Hq (b.out.below p);have c:=Hq (i.out.at_ pg fn);have q:=show(D.setRow G #[pg,fn]).cell? ⟨G+2,0,none⟩=some (.bool false)from(by rw[Aa c.out.b6];rfl);have O:=Ap c.out.b6 0)
   |with_reducible refine lS #[pg,fn] i.out.b4 ?_)
  have A:(D.setRow G #[pg,fn]).setCell ⟨G+2,0,none⟩ (.bool true)=(D.setRow G #[pg,fn]).setRow (G+2) #[true]:=setCell_eq_setRow _ (G+2) 0 _ _ _ _ c.out.b6;rw[A];have r:=Hq (c.out.yes true);have C:=Hq (((o.out.trans (Cl.of (B:=M) p (by have:=b.out.hg;have:=Bt b.out.b5;omega))).box (by have:=b.out.hg;omega) i.out.b4 rfl (by decide) #[pg,fn]).box (by have:=b.out.hg;omega) c.out.b6 rfl (by decide) #[true]);generalize (D.setRow G #[pg,fn]).setRow (G+2) #[true]=u6 at r C ⊢;clear q O A p b i c o
  try simp only[Act.put]
  have q:=show u6.cell? ⟨G+2,0,none⟩=some (.bool true)from(by rw[Aa r.out.b6];rfl);go_wp2_with fail;exact N.out _ r.out C.out
 ·have P:=Hq (t.out j)
  clear s t;have q:=show T.cell? ⟨G+2,0,none⟩=some (.bool false)from(by rw[Aa b.out.b6];rfl);go_wp2_with fail;exact P.out _ b.out o.out
def Xt (M G:Nat)(rec:ByteArray)(r:Int)(l:List Nat)(m:Nat)(fn:Int)(j:Nat)(W:World):Prop:=
 Rm M G rec (if j=0 then r else((l[j-1]?).getD 0:Nat)) (if j≤m then 0 else((l[m]?).getD 0:Nat)) (if j≤m then 0 else fn) (decide (m<j)) W
structure Ip (w:World) (G:Nat) (s:Tx.St) (p:SP) (rec:ByteArray) (last a b:Int) (f:Bool) (u:World):Prop where
 b0:u.heap[w.heap.size]? =some (.cells (Ak s p) 36 (0,0))
 b2:u.heap[w.heap.size+2]? =some (.cells #[(),(),(),"s",(),false,(),(),(),(),"","s",(),"s",()] 36 (0,0))
 ins:Rm w.heap.size G rec last a b f u
 cl:Cl w.heap.size w u
section
variable {w : World} {G : Nat} {s : Tx.St} {p : SP} {rec : ByteArray} {last a b : Int} {f : Bool} {u : World}
theorem Ip.below {v:World}(h:Ip w G s p rec last a b f u)(c:Bw u v):Ip w G s p rec last a b f v:=
 ⟨Af h.b0 c,Af h.b2 c,h.ins.below c,h.cl.trans (Cl.of c h.cl.bl.size)⟩
theorem Ip.other (h:Ip w G s p rec last a b f u){g:Nat}(d:w.heap.size+2<g){cs:Array Value}(c:u.heap[g]? =some (.cells cs 36 (0,0)))(cs':Array Value):Ip w G s p rec last a b f (u.setRow g cs'):=
 ⟨(Ae _ _ _ _ (by omega)).trans h.b0,(Ae _ _ _ _ (by omega)).trans h.b2,h.ins.other c cs',h.cl.row (by omega) (by omega) _⟩
theorem Ip.at_ (h:Ip w G s p rec last a b f u)(x y:Int):Ip w G s p rec last x y f (u.setRow G #[x,y]):=by
 have c:=h.ins.hg;exact⟨(Ae _ _ _ _ (by omega)).trans h.b0,(Ae _ _ _ _ (by omega)).trans h.b2,h.ins.at_ x y,h.cl.row (by omega) (by omega) _⟩
end
def gW (R:Tx.St→List Fr→Int→Int→Prop)(F:Int→Prop)(s:Tx.St)(p:SP)(fs:List Fr)(w:World)(e:Ending)(w':World):Prop:=
 (∃ (s':Tx.St) (q:SP) (fs':List Fr) (x y:Int),e= .returned (.tuple #[Ah s' q,.agg #[x,y],()])∧Am w' s' q fs'∧R s' fs' x y∧Bw w w')∨
 (∃ z:Int,e= .returned (.tuple #[Ah s p,.agg #[(),()],z])∧Am w' s p fs∧F z∧Bw w w')
theorem bB {N n k:Nat}{ids:List Int}{c:Int}{C:Nat→ByteArray}(s:Tx.St)(p:SP)(fs:List Fr)(hS:SS N n k ids c s fs C){b:ByteArray}{u:Nat→Nat}{V:Nat→Nat×List ByteArray}(hu:SI n C b u V)(l:List Nat)(hl:aZ n u V l)
 (t r:Int) (hr:r=((l[0]?).getD 0:Nat)) (rec:ByteArray) (da:1≤rec.size∧rec.size≤400) (m:Nat) (db:m≤l.length) (br:∀ j (hj:j<l.length),j<m→¬ (rec.size:Int)≤Jf (C l[j])) (bs:∀ (hj:m<l.length),(rec.size:Int)≤Jf (C l[m]))
 (fn:Int) (bt:∀ (hj:m<l.length),fn=(Pg.Db (Ab (C l[m])).Ai:Nat)) (RL:Tx.St→List Fr→Int→Int→Prop) (R:Tx.St→List Fr→Int→Int→Prop) (F:Int→Prop)
 (w:World)
 (bu:m=l.length→∀ s1 q1 fs1,SS N n k ids c s1 fs1 C→∀ W,Bw w W→Am W s1 q1 fs1→Cq 55 #[Ah s1 q1,t,.int .i64 ((l[l.length-1]?).getD 0:Nat)] W (J6 RL W))
 (bw:∀ s1 fs1 (x y:Int),RL s1 fs1 x y→y≠0→y≠20∧F y)
 (bx:∀ s1 q1 fs1 (x y:Int),(m<l.length∧SS N n k ids c s1 fs1 C∧x=((l[m]?).getD 0:Nat)∧y=fn∨RL s1 fs1 x 0∧y=0)→∀ W,Bw w W→Am W s1 q1 fs1→Cq 56 #[Ah s1 q1,t,x,.agg #[.int .i64 1,y,"",rec]] W (gU (fun s2 fs2 z=>z=0∧R s2 fs2 x y) W))
 (h:Am w s p fs):Cq 19 #[Ah s p,t,r,rec] w (gW R F s p fs w):=by
 have bf:=Hq (fun W=>aX rec W);rw[decide_eq_true da]at bf;have HQ:=Hq (fun(s':Tx.St) (q:SP) (af:List Fr) (x y:Int) w' h1 h2 h3=>show gW R F s p fs w (.returned (.tuple #[Ah s' q,.agg #[x,y],()])) w' from .inl ⟨s',q,af,x,y,rfl,h1,h2,h3⟩);have HE:=Hq (fun(z:Int) w' h1 h2 h3=>show gW R F s p fs w (.returned (.tuple #[Ah s p,.agg #[(),()],z])) w' from .inr ⟨z,rfl,h1,h2,h3⟩);have b8:=Hq bu;have bg:=Hq bw;have X:=Hq bx;unfold J6 at b8;unfold gU at X;generalize gW R F s p fs w=Q at HQ HE ⊢;have HZ:=Hq h;have dc:=Hq hS.whole;have bh:=Hq (fun(G:Nat) (W:World) (hw:Bw w W) (hi:Xt w.heap.size G rec r l m fn 0 W)=>Ua (N:=N) (n:=n) (k:=k) (ids:=ids) (c:=c) (C:=C) (B:=w.heap.size) (I:=Xt w.heap.size G rec r l m fn)
  (fun _ _ _ h1 h2=>Rm.below h1 h2) (fun _ _ _ _ _ h1 h2=>Rm.other h1 h2 _) s p fs hS hu l hl m 52 #[.pointer (some ⟨G+1,0,none⟩),.pointer (some ⟨w.heap.size+1,0,none⟩),.pointer (some ⟨G,0,none⟩),.pointer (some ⟨G+2,0,none⟩)] (enters_of Tryz.func52 Kr rfl)
  (fun j hj bz W' dd _=>by
    have de:=hl.at_ j hj;have dp:=(hS.pi.nm l[j] de.2.1).size;have df:Rm w.heap.size G rec (if j=0 then r else((l[j-1]?).getD 0:Nat)) 0 0 false W':=by
     have h9:=dd;unfold Xt at h9
     rwa[if_pos bz,if_pos bz,decide_eq_false (show ¬ m<j by omega)]at h9
    refine(eS w.heap.size G (l[j]:Int) (C l[j]) (by omega) rec _ W' df).mono ?_;rintro e W2 ⟨rfl,h1,h2⟩;have c1:(l[j]?).getD 0=l[j]:=by rw[List.getElem?_eq_getElem hj];rfl
    by_cases e:j=m
    ·subst e
     have h3:=bs hj;rw[if_pos h3]at h1;refine⟨by rw[decide_eq_true h3];simp,?_,h2⟩;unfold Xt;rw[if_neg (by omega),if_neg (by omega),if_neg (by omega),decide_eq_true (show j<j+1 by omega),Nat.add_sub_cancel,c1,bt hj];exact h1
    ·have h3:=br j hj (by omega)
     rw[if_neg h3]at h1;refine⟨by rw[decide_eq_false h3];simp[e],?_,h2⟩;unfold Xt;rw[if_neg (by omega),if_pos (by omega),if_pos (by omega),decide_eq_false (show ¬ m<j+1 by omega),Nat.add_sub_cancel,c1];exact h1)
  r hr W (h.below hw) hi hw.size)
 unfold Vy at bh;have dq:=hl.pos;clear bu bw bx hr hS hu hl br bs bt;go_enter Tryz.func19,Tryz.ntmps19;go_upto_region 1 with fail;have H0:=xT w (Ak s p) 36 #[rec] 9 #[(),(),(),"s",(),false,(),(),(),(),"","s",(),"s",()] 36 #[(),()] 44;obtain⟨W0,c6⟩:=E0 H0;rw[← c6]at H0 ⊢;clear c6;have dh:=show W0.cell? ⟨w.heap.size+1,0,none⟩=some (.string rec)from by rw[Aa H0.out.Aq];rfl
 go_upto_region 4 with(first
  |(go_at_call 50;refine(bf.out _).mono ?_;rintro e w1 ⟨rfl,b9⟩)
  |with_reducible refine sN #[(),()] ?_)
 have H1:=Hq (H0.out.step b9);have hG:w.heap.size+4≤w1.heap.size:=H1.out.lt (i:=3) (by simp);obtain⟨c7,c8,ca,cb⟩:=(show _∧_∧_∧_ from⟨H1.out.Ao,H1.out.Aq,H1.out.Cd,H1.out.g3⟩);have cc:=Hq (Cl.of (B:=w.heap.size) H1.out.below (Nat.le_refl _));obtain⟨G,bj⟩:=ex w1.heap.size;have b9:=Ac w1 (.cells #[(),()] 44);have Y:=Ac (w1.alloc (.cells #[(),()] 44)) (.cells #[r] 3);have ba:=Ac ((w1.alloc (.cells #[(),()] 44)).alloc (.cells #[r] 3)) (.cells #[false] 4);have T:=Ag (Ag b9 Y) ba;have h4:=Af (Af (heap_alloc_new w1 (.cells #[(),()] 44)) Y) ba;have h5:=Af (heap_alloc_new (w1.alloc (.cells #[(),()] 44)) (.cells #[r] 3)) ba;have h6:=heap_alloc_new ((w1.alloc (.cells #[(),()] 44)).alloc (.cells #[r] 3)) (.cells #[false] 4);rw[show((w1.alloc (.cells #[(),()] 44)).alloc (.cells #[r] 3)).heap.size=w1.heap.size+2 from by simp]at h6;rw[show(w1.alloc (.cells #[(),()] 44)).heap.size=w1.heap.size+1 from by simp]at h5;obtain⟨w2,ag⟩:=ex (((w1.alloc (.cells #[(),()] 44)).alloc (.cells #[r] 3)).alloc (.cells #[false] 4));rw[← ag]at T h4 h5 h6;rw[← bj]at h4 h5 h6 hG;rw[← ag,← bj];have HX:=Hq (show Ip w G s p rec r 0 0 false w2 from⟨Af c7 T,Af ca T,⟨hG,Af c8 T,Af cb T,h4,h5,h6⟩,cc.out.trans (Cl.of T H1.out.below.size)⟩);have cd:=Hq (show Xt w.heap.size G rec r l m fn 0 w2 from by
  unfold Xt;rw[if_pos rfl,if_pos (Nat.zero_le _),if_pos (Nat.zero_le _),decide_eq_false (Nat.not_lt_zero m)];exact HX.out.ins)
 have cf:=Hq (Ag H1.out.below T);clear T h4 h5 h6 b9 Y ba ag bj c7 c8 ca cb cc H0 H1 dh bf
 try simp only[Act.put]
 go_upto_region 5 with(first
  |with_reducible refine lL HX.out.b0 Ar ?_
  |(go_at_call 51;refine(bh.out G _ cf.out cd.out).mono ?_;rintro e w4 ⟨s1,q1,fs1,rfl,cg,cj,M,bb⟩)
  |with_reducible refine sN (Ak s1 q1) ?_)
 have H:=Ac w4 (.cells (Ak s1 q1) 36);have ck:=bb.keep _ _ _ _ HX.out.b0 (by decide) (by decide);have bk:=bb.keep _ _ _ _ HX.out.b2 (by decide) (by decide);have cm:=Hq (HX.out.cl.trans bb);have U:=Hq (cg.below H);have ad:=Hq cj;have Z:=Hq (heap_alloc_new w4 (.cells (Ak s1 q1) 36));have a8:w.heap.size+2<w4.heap.size:=Bt bk;have di:G<w4.heap.size:=by
  unfold Xt at M;exact Bt M.b4
 have ah:=Hq (fun(last a b:Int) (f:Bool) (hi:Rm w.heap.size G rec last a b f w4)=>Ip.below (v:=w4.alloc (.cells (Ak s1 q1) 36)) (show Ip w G s p rec last a b f w4 from⟨ck,bk,hi,cm.out⟩) H);obtain⟨g14,bc⟩:=ex w4.heap.size;obtain⟨w5,bd⟩:=ex (w4.alloc (.cells (Ak s1 q1) 36));rw[← bc,← bd]at Z;rw[← bd]at U ah;rw[← bc]at a8 di;rw[← bd,← bc];clear bd bc H ck bk HX cd cf bh cg cj bb cm
 try simp only[Act.put]
 unfold Xt at M
 by_cases hm:m<l.length
 ·rw[show min (m+1) l.length=m+1 from by omega,if_neg (by omega),if_neg (by omega),if_neg (by omega),decide_eq_true (show m<m+1 by omega),Nat.add_sub_cancel]at M
  have d:=Hq (ah.out _ _ _ _ M);have aa:=Hq (fun(s':Tx.St) (af:List Fr) (hs:SS N n k ids c s' af C)=>show(m<l.length∧SS N n k ids c s' af C∧(((l[m]?).getD 0:Nat):Int)=((l[m]?).getD 0:Nat)∧fn=fn∨RL s' af (((l[m]?).getD 0:Nat):Int) 0∧fn=0)from .inl ⟨hm,hs,rfl,rfl⟩);clear M ah b8 bg HE hm db;generalize (((l[m]?).getD 0:Nat):Int)=x at d aa X;have cn:=show w5.cell? ⟨G+1+1,0,none⟩=some (.bool true)from(by rw[Aa d.out.ins.b6];rfl);have ai:=show w5.cell? ⟨G,0,none⟩=some (.int .i64 x)from(by rw[Aa d.out.ins.b4];rfl);have aj:=show w5.cell? ⟨G,1,none⟩=some (.int .i64 fn)from(by rw[Aa d.out.ins.b4];rfl);have ak:=show w5.cell? ⟨w.heap.size+1,0,none⟩=some (.string rec)from by rw[Aa d.out.ins.b1];rfl
  go_upto_region 9 with(first
   |with_reducible refine lL Z.out Ar ?_
   |(go_at_call 56;refine(X.out _ _ _ _ _ (aa.out s1 fs1 ad.out) _ d.out.cl.bl U.out).mono ?_;rintro e v1 ⟨o,A,bm,y5,rfl,al,⟨rfl,an⟩,H⟩;have J:=Af Z.out H)
   |with_reducible refine lS (Ak o A) J ?_)
  have a1:=Hq ((d.out.below H).other a8 J (Ak o A));have cp:=Hq (setRow_heap _ _ _ (Ak o A) _ _ J);have cq:=Hq (al.other (t:=36) J (by decide) (by decide) (by decide) (Ak o A));have bn:=Hq an;generalize v1.setRow g14 (Ak o A)=v5 at a1 cp cq ⊢;clear ai aj ak al an H J d Z X U ad
  try simp only[Act.put]
  go_upto_region 11 with fail;have E:Bw v5 v5.drew:=(Below.refl _ v5).drew;have dj:=a1.out.ins.hg;have dk:w.heap.size+3<g14:=by omega
  have hSn:=And.intro (Af cp.out E) (Af a1.out.ins.b4 E);have O:=Af a1.out.b2 E;have ao:=Af a1.out.ins.b3 E;have aq:=cq.out.below E;have ar:=(a1.out.cl.trans (Cl.of E a1.out.cl.bl.size)).bl;refine G7 (S:=(fun u=>u.heap[g14]? =some (.cells (Ak o A) 36 (0,0))∧u.heap[G]? =some (.cells #[x,fn] 44 (0,0)))) (fun D=>?_);generalize v5.drew=v10 at hSn O ao aq ar ⊢;refine fA 0 Ar ?_;refine fA 1 Y0 ?_;refine Dg 2 fun K hK=>?_;refine Cc (by rfl) ?_;refine sW (Ak o A) O ?_;have bo:=setRow_heap _ _ _ (Ak o A) _ _ O;have a6:=(Ae _ _ (Ak o A) _ (show w.heap.size+3≠w.heap.size+2 by omega)).trans ao;have bp:=aq.other (t:=36) O (by decide) (by decide) (by decide) (Ak o A);have au:=Gx (g:=w.heap.size+2) (by omega) ar (Ak o A);have L:=And.intro ((Ae _ _ (Ak o A) _ (show g14≠w.heap.size+2 by omega)).trans hSn.1) ((Ae _ _ (Ak o A) _ (show G≠w.heap.size+2 by omega)).trans hSn.2);clear hSn;have hSn:=L;clear L;refine Cw hK (fun D=>?_);clear hK K;refine Dg 3 fun K hK=>?_;refine Cc (by rfl) ?_;refine sW #[x,fn] a6 ?_;have av:=setRow_heap _ _ _ #[x,fn] _ _ a6;have aw:=(Ae _ _ #[x,fn] _ (show w.heap.size+2≠w.heap.size+3 by omega)).trans bo;have ax:=bp.other (t:=44) a6 (by decide) (by decide) (by decide) #[x,fn];have ay:=Gx (g:=w.heap.size+3) (by omega) au #[x,fn];have L:=And.intro ((Ae _ _ #[x,fn] _ (show g14≠w.heap.size+3 by omega)).trans hSn.1) ((Ae _ _ #[x,fn] _ (show G≠w.heap.size+3 by omega)).trans hSn.2);clear hSn;have hSn:=L;clear L;refine Cw hK (fun D=>?_);clear hK K;refine Bb 4 ?_;refine wpAnyH_done Kr ?_ _
  try clear D
  try simp only[Act.put]
  go_wp2_with fail;refine bodyPost_ret (v:=.tuple #[.agg (Ak o A),.agg #[x,fn],()]) (Ex rfl _ _ rfl rfl (Cf aw Ar Kr Kr) (Cf av Y0 Kr Kr) rfl) rfl ?_;exact HQ.out o A bm _ _ _ ax bn.out ay
 ·obtain rfl:m=l.length:=by omega
  rw[show min (l.length+1) l.length=l.length from by omega,if_neg (show ¬ l.length=0 by omega),if_pos (Nat.le_refl _),if_pos (Nat.le_refl _),decide_eq_false (show ¬ l.length<l.length by omega)]at M;have d:=Hq (ah.out _ _ _ _ M);have HL:=Hq (b8.out rfl s1 q1 fs1 ad.out);clear M ah b8 hm;generalize (((l[l.length-1]?).getD 0:Nat):Int)=lp at d HL;have cn:=show w5.cell? ⟨G+1+1,0,none⟩=some (.bool false)from(by rw[Aa d.out.ins.b6];rfl);have dm:=show w5.cell? ⟨G+1,0,none⟩=some (.int .i64 lp)from by rw[Aa d.out.ins.b5];rfl
  go_upto_region 7 with(first
   |with_reducible refine lL Z.out Ar ?_
   |(go_at_call 55;refine(HL.out _ d.out.cl.bl U.out).mono ?_;rintro e v1 ⟨s2,q2,fs2,x,y,rfl,cr,ct,Y⟩;have az:=Af Z.out Y;have ae:=Hq ((d.out.below Y).other a8 az (Ak s2 q2));have cu:=show(v1.setRow g14 (Ak s2 q2)).cell? ⟨G,0,none⟩=some (.int .i64 0)from(by rw[Aa ae.out.ins.b4];rfl);have cv:=Ap ae.out.ins.b4 0)
   |with_reducible refine lS (Ak s2 q2) az ?_)
  have cw:(v1.setRow g14 (Ak s2 q2)).setCell ⟨G,0,none⟩ (.int .i64 x)=(v1.setRow g14 (Ak s2 q2)).setRow G #[x,()]:=setCell_eq_setRow _ G 0 _ _ _ _ ae.out.ins.b4;rw[cw];have P:=Hq (ae.out.at_ x 0);have cx:=Hq ((cr.other (t:=36) az (by decide) (by decide) (by decide) (Ak s2 q2)).other (t:=44) ae.out.ins.b4 (by decide) (by decide) (by decide) #[x,()]);have b7:=Hq ((Ae _ _ #[x,()] _ (show g14≠G by omega)).trans (setRow_heap _ _ _ (Ak s2 q2) _ _ az));have bq:=Hq ct;generalize (v1.setRow g14 (Ak s2 q2)).setRow G #[x,()]=w7 at P cx b7 ⊢;clear cw cn dm cu cv cr ct Y az d ae Z U HL
  try simp only[Act.put]
  by_cases hy:y=0
  ·subst hy
   have aa:=Hq (show(l.length<l.length∧SS N n k ids c s2 fs2 C∧x=((l[l.length]?).getD 0:Nat)∧(0:Int)=fn∨RL s2 fs2 x 0∧(0:Int)=0)from .inr ⟨bq.out,rfl⟩);have ai:=show w7.cell? ⟨G,0,none⟩=some (.int .i64 x)from(by rw[Aa P.out.ins.b4];rfl);have aj:=show w7.cell? ⟨G,1,none⟩=some (.int .i64 0)from(by rw[Aa P.out.ins.b4];rfl);have ak:=show w7.cell? ⟨w.heap.size+1,0,none⟩=some (.string rec)from by rw[Aa P.out.ins.b1];rfl
   go_upto_region 9 with(first
    |with_reducible refine lL b7.out Ar ?_
    |(go_at_call 56;refine(X.out _ _ _ _ _ aa.out _ P.out.cl.bl cx.out).mono ?_;rintro e v1 ⟨o,A,bm,y5,rfl,al,⟨rfl,an⟩,H⟩;have J:=Af b7.out H)
    |with_reducible refine lS (Ak o A) J ?_)
   have d:=Hq ((P.out.below H).other a8 J (Ak o A));have ad:=Hq (setRow_heap _ _ _ (Ak o A) _ _ J);have U:=Hq (al.other (t:=36) J (by decide) (by decide) (by decide) (Ak o A));have bn:=Hq an;generalize v1.setRow g14 (Ak o A)=v5 at d ad U ⊢;clear ai aj ak al an H J P b7 X
   try simp only[Act.put]
   go_upto_region 11 with fail;have E:Bw v5 v5.drew:=(Below.refl _ v5).drew;have dj:=d.out.ins.hg;have dk:w.heap.size+3<g14:=(by omega);have hSn:=And.intro (Af ad.out E) (Af d.out.ins.b4 E);have O:=Af d.out.b2 E;have ao:=Af d.out.ins.b3 E;have aq:=U.out.below E;have ar:=(d.out.cl.trans (Cl.of E d.out.cl.bl.size)).bl;refine G7 (S:=(fun u=>u.heap[g14]? =some (.cells (Ak o A) 36 (0,0))∧u.heap[G]? =some (.cells #[x,()] 44 (0,0)))) (fun D=>?_);generalize v5.drew=v10 at hSn O ao aq ar ⊢;refine fA 0 Ar ?_;refine fA 1 Y0 ?_;refine Dg 2 fun K hK=>?_;refine Cc (by rfl) ?_;refine sW (Ak o A) O ?_;have bo:=setRow_heap _ _ _ (Ak o A) _ _ O;have a6:=(Ae _ _ (Ak o A) _ (show w.heap.size+3≠w.heap.size+2 by omega)).trans ao;have bp:=aq.other (t:=36) O (by decide) (by decide) (by decide) (Ak o A);have au:=Gx (g:=w.heap.size+2) (by omega) ar (Ak o A);have L:=And.intro ((Ae _ _ (Ak o A) _ (show g14≠w.heap.size+2 by omega)).trans hSn.1) ((Ae _ _ (Ak o A) _ (show G≠w.heap.size+2 by omega)).trans hSn.2);clear hSn;have hSn:=L;clear L;refine Cw hK (fun D=>?_);clear hK K;refine Dg 3 fun K hK=>?_;refine Cc (by rfl) ?_;refine sW #[x,()] a6 ?_;have av:=setRow_heap _ _ _ #[x,()] _ _ a6;have aw:=(Ae _ _ #[x,()] _ (show w.heap.size+2≠w.heap.size+3 by omega)).trans bo;have ax:=bp.other (t:=44) a6 (by decide) (by decide) (by decide) #[x,()];have ay:=Gx (g:=w.heap.size+3) (by omega) au #[x,()];have L:=And.intro ((Ae _ _ #[x,()] _ (show g14≠w.heap.size+3 by omega)).trans hSn.1) ((Ae _ _ #[x,()] _ (show G≠w.heap.size+3 by omega)).trans hSn.2);clear hSn;have hSn:=L;clear L;refine Cw hK (fun D=>?_);clear hK K;refine Bb 4 ?_;refine wpAnyH_done Kr ?_ _
   try clear D
   try simp only[Act.put]
   go_wp2_with fail;refine bodyPost_ret (v:=.tuple #[.agg (Ak o A),.agg #[x,()],()]) (Ex rfl _ _ rfl rfl (Cf aw Ar Kr Kr) (Cf av Y0 Kr Kr) rfl) rfl ?_;exact HQ.out o A bm _ _ _ ax bn.out ay
  ·have dr:(y==0)=false:=beq_eq_false_iff_ne.2 hy
   have ds:(y != 0)=true:=bne_iff_ne.2 hy;have HF:=Hq (bg.out _ _ _ _ bq.out hy);have cy:=Hq (fun W=>Vx s p s2 q2 y HF.out.1 W);rw[if_neg hy]at cy;clear hy bg bq X HQ
   go_wp2_with(first
    |with_reducible refine lL P.out.b0 Ar ?_
    |with_reducible refine lL b7.out Ar ?_
    |(go_at_call 57;refine(cy.out _).mono ?_;rintro e w8 ⟨rfl,au⟩;have a7:=Hq (P.out.below au))
    |with_reducible refine lS (Ak s p) a7.out.b2 ?_
    |(with_reducible refine lS #[(),()] ((Ae _ _ _ _ (by omega)).trans a7.out.ins.b3) ?_))
   have cz:=(Ae w8 _ (Ak s p) _ (show w.heap.size+3≠w.heap.size+2 by omega)).trans a7.out.ins.b3;have dn:=setRow_heap _ _ _ (Ak s p) _ _ a7.out.b2;refine bodyPost_ret (v:=.tuple #[.agg (Ak s p),.agg #[(),()],y]) (Ex rfl _ _ rfl rfl (Cf ((Ae _ _ _ _ (show w.heap.size+2≠w.heap.size+3 by omega)).trans dn) Ar Kr Kr) (Cf (setRow_heap _ _ _ _ _ _ cz) Y0 Kr Kr) rfl) rfl ?_;exact HE.out y _ (((HZ.out.cl dc.out a7.out.cl).other (t:=36) a7.out.b2 (by decide) (by decide) (by decide) _).other (t:=44) cz (by decide) (by decide) (by decide) _) HF.out.2 (Gx (by omega) (Gx (by omega) a7.out.cl.bl _) _)
end Go.Proofs.YtmfkhdhnbkambaaGreatDoor
