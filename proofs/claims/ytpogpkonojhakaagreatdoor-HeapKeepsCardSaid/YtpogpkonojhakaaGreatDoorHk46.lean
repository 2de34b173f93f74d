import Derived.Test.YtpogpkonojhakaaGreatDoorHk00
import Derived.Test.YtpogpkonojhakaaGreatDoorHk01
import Derived.Test.YtpogpkonojhakaaGreatDoorHk04
import Derived.Test.YtpogpkonojhakaaGreatDoorHk05
import Derived.BigRegion
set_option maxRecDepth 100000
set_option maxHeartbeats 16000000
set_option linter.unusedSimpArgs false
namespace Go.Proofs.YtpogpkonojhakaaGreatDoor
open Go.RowKit
def Hp (B b:Nat)(l:List UInt8)(w:World):Prop:=
 b<B∧∃ p v,w.heap[b]? =some (.cells #[p,v] 237 (0,0))∧(p= .pointer none∨p= .pointer (some ⟨b,0,none⟩))∧w.ownsRow B 5 1 v l.length (Lib.byteCells l)
def sQ (o:Option Obj):Prop:=∃ cs t fr,o=some (.cells cs t fr)∧t≠5
structure C9 (B b:Nat) (w w':World):Prop where
 os:w'.os=w.os
 tape:w'.tape=w.tape
 output:w'.output=w.output
 size:w.heap.size≤w'.heap.size
 block:∀ k,k<w.heap.size→k≠b→k<B∨sQ w.heap[k]?→w'.heap[k]? =w.heap[k]?
theorem C9.refl (B b:Nat)(w:World):C9 B b w w:=⟨rfl,rfl,rfl,Nat.le_refl _,fun _ _ _ _=>rfl⟩
theorem C9.trans {B b:Nat}{u v w:World}(h:C9 B b u v)(k:C9 B b v w):C9 B b u w:=
 ⟨k.os.trans h.os,k.tape.trans h.tape,k.output.trans h.output,Nat.le_trans h.size k.size,fun i a c d=>by
   have e:=h.block i a c d;exact(k.block i (Nat.lt_of_lt_of_le a h.size) c (by rw[e];exact d)).trans e⟩
theorem C9.Et {B b:Nat}{u v:World}(h:Bw u v):C9 B b u v:=
 ⟨h.os,h.tape,h.output,h.size,fun i a _ _=>h.block i a⟩
theorem C9.below {B b lo:Nat}{u v:World}(h:C9 B b u v)(a:lo≤B)(c:lo≤b)(d:lo≤u.heap.size):Below lo u v:=
 ⟨h.os,h.tape,h.output,h.size,fun i e=>h.block i (by omega) (by omega) (.inl (by omega))⟩
theorem C9.at_ {B b:Nat}{u v:World}(h:C9 B b u v){g:Nat}{cs:Array Value}{t:TypeId}{fr:Nat×Nat}(a:u.heap[g]? =some (.cells cs t fr))(c:g≠b)(d:t≠5):v.heap[g]? =some (.cells cs t fr):=
 (h.block g (Bt a) c (.inr ⟨cs,t,fr,a,d⟩)).trans a
theorem I7 {B b:Nat}{l:List UInt8}{w:World}(h:Hp B b l w):b<w.heap.size:=by
 obtain⟨_,p,v,a,_⟩:=h;exact Bt a
theorem Hp.below {B b:Nat}{l:List UInt8}{w w':World}(h:Hp B b l w)(e:Bw w w'):Hp B b l w':=by
 obtain⟨c,p,v,d,f,a⟩:=h;exact⟨c,p,v,Ag d e,f,Bn a e⟩
theorem Hp.fresh (B b:Nat)(w:World)(a:b<B)(h:w.heap[b]? =some (.cells #[.pointer none,'s'] 237 (0,0))):Hp B b [] w:=
 ⟨a,_,_,h,.inl rfl,⟨rfl,.inl ⟨rfl,rfl⟩⟩⟩
theorem P3 (b:Nat)(w:World)(h:w.cell? ⟨b,0,none⟩=some (.pointer none))(c:w.shape? b=some (237,2))(g:w.frozen? ⟨b,0,none⟩=false):
 Cq 192 #[.pointer (some ⟨b,0,none⟩)] w fun e w'=>e= .returned (.tuple #[])∧w'=w.setCell ⟨b,0,none⟩ (.pointer (some ⟨b,0,none⟩)):=by
 obtain⟨j,f,d⟩:=Option.map_eq_some_iff.1 (show(Tryz.prog.info? 162).map (·.size)=some 2 by kernel_rfl);have a:liesAt Tryz.prog Tryz.prog.depth 237 (2/Tryz.prog.cellsOf 237) 0 162 1=true:=by kernel_rfl
 go_enter Tryz.func192,Tryz.ntmps192
 go_wp2
 rw[Lib.run_to_unsafe w ⟨b,0,none⟩ uV uW f (by rw[d];decide) c (Nat.zero_lt_succ 1)];simp only[Result.andThen];rw[Oper.upon_value]
 go_wp2
 rw[run_callFunc_extern Tryz.func237 Kr Kr Kr (e:=Extern.AbiNoEscape.same) Kr];rw[Lib.run_noEscape];simp only[Result.andThen];rw[Oper.upon_value]
 go_wp2
 rw[Lib.run_from_unsafe w ⟨b,0,none⟩ uW uV f c a];simp only[Result.andThen];rw[Oper.upon_value]
 go_wp2
 go_end0
 exact⟨rfl,rfl⟩
theorem setW (B b:Nat)(w:World)(i:Nat)(v:Value):C9 B b w (w.setCell ⟨b,i,none⟩ v):=
 ⟨rfl,rfl,rfl,by simp[World.setCell],fun k _ hk _=>Below.heap_setCell _ _ _ _ hk⟩
theorem Sy (B b:Nat)(l:List UInt8)(w:World)(h:Hp B b l w):
 Cq 192 #[.pointer (some ⟨b,0,none⟩)] w fun e w'=>e= .returned (.tuple #[])∧
  (b<B∧∃ v,w'.heap[b]? =some (.cells #[.pointer (some ⟨b,0,none⟩),v] 237 (0,0))∧w'.ownsRow B 5 1 v l.length (Lib.byteCells l))∧C9 B b w w':=by
 obtain⟨c,p,v,d,f,a⟩:=h;rcases f with rfl|rfl
 ·refine(P3 b w (by rw[Aa d];rfl) (by simp[World.shape?,d]) (by simp[World.frozen?,d])).mono ?_
  rintro e w' ⟨rfl,rfl⟩;exact⟨rfl,⟨c,v,heap_set w b 0 _ _ _ _ d,Rr c a⟩,setW B b w 0 _⟩
 ·refine(L0 b w (by rw[Aa d];rfl)).mono ?_
  rintro e w' ⟨rfl,rfl⟩;exact⟨rfl,⟨c,v,d,a⟩,C9.refl _ _ _⟩
theorem Sz (B b:Nat)(l:List UInt8)(s:ByteArray)(w:World)(h:Hp B b l w)(hlen:l.length+s.size≤140737488355328)(M:B≤w.heap.size):
 Cq 156 #[.pointer (some ⟨b,0,none⟩),s] w fun e w'=>e= .returned (.tuple #[s.size,.nilIface])∧Hp B b (l++s.data.toList) w'∧C9 B b w w':=by
 obtain⟨i0,N,r,x,y⟩:=info_parts Pt;have O:=Hq (Sy B b l w h);clear h;go_enter Tryz.func156,Tryz.ntmps156
 go_wp2_with(go_at_call 192;refine O.out.mono ?_)
 rintro e z ⟨rfl,⟨o,v,f,c⟩,j⟩;have P:=j.size;have T:z.cell? ⟨b,1,none⟩=some v:=by rw[Aa f];rfl
 go_wp2_with(at_builtin;refine Lib.wpList_append_own_string _ rfl _ _ 69 9 rfl B 5 i0 Lx cD N r x y _ _ _ rfl c s rfl ?c3 ?c4 ?c5 ?_)
 case c3=>unfold maxLen;omega
 case c4=>omega
 case c5=>omega
 intro Q w2 d a _;have A:b<z.heap.size:=Bt f;have C:v.ownBlock≠some b:=fun e=>by
  have:=(c.lt b e).1;omega
 have m:w2.heap[b]? =some (.cells #[.pointer (some ⟨b,0,none⟩),v] 237 (0,0)):=by
  rw[a.block b A (fun e=>C e.symm)];exact f
 have d1:w2.cell? ⟨b,1,none⟩=some v:=by rw[Aa m];rfl
 have f1:w2.frozen? ⟨b,1,none⟩=false:=by simp[World.frozen?,m]
 obtain⟨D,E,cap,rfl⟩:∃ D E cap,Q= .slice D E cap:=by
  rcases d.2 with⟨n,_⟩|⟨g,cap,cur,n,_⟩
  ·exact⟨_,_,_,n⟩
  ·exact⟨_,_,_,n⟩
 have p:C9 B b z w2:=⟨a.os,a.tape,a.output,a.size,fun k hk R K=>a.block k hk (fun e=>by
  have U:=(c.lt k e.symm).1;rcases K with K|⟨cs,t,V,F,S⟩
  ·omega
  ·rcases c.2 with⟨n,_⟩|⟨g,L,cur,n,_,q,_⟩
   ·rw[n]at e;simp[Value.ownBlock]at e
   ·rw[n]at e
    have G:g=k:=(by simpa[Value.ownBlock]using e.symm);subst G;rw[F]at q
    injection q with q
    injection q with _ H
    exact S H)⟩
 have I:=Hq (j.trans p);clear j p;go_wp2_with fail;go_ret2;refine⟨rfl,?_,I.out.trans (setW B b w2 1 _)⟩;have J:Lib.byteCells (l++s.data.toList)=Lib.byteCells l++Lib.strCells s:=by
  simp[Lib.byteCells,Lib.strCells]
 refine⟨o,_,_,heap_set w2 b 1 _ _ _ _ m,.inr rfl,?_⟩;have:=Rr (i:=1) (u:=.slice D E cap) o d;rw[J,List.length_append,show s.data.toList.length=s.size by simp];exact this
theorem aA (B b:Nat)(l:List UInt8)(w:World)(h:Hp B b l w)(o:l≠[]):
 Cq 157 #[.pointer (some ⟨b,0,none⟩)] w fun e w'=>e= .returned (.string ⟨l.toArray⟩)∧C9 B b w w':=by
 obtain⟨z,p,v,i,L,c⟩:=h;have q:l.length≠0:=by simpa using o
 obtain⟨g,cap,cur,rfl,A,a,s,m,d,f⟩:∃ g cap cur,v= .slice (some ⟨g,0,none⟩) l.length cap∧B≤g∧w.heap[g]? =some (.cells cur 5 (0,0))∧l.length≤cap∧cap≤maxLen∧cur.size=cap*1∧cur.toList.take (l.length*1)=Lib.byteCells l:=by
  rcases c.2 with⟨_,C⟩|⟨g,cap,cur,D,r⟩
  ·exact absurd C q
  ·exact⟨g,cap,cur,D,r⟩
 have M:w.drew.cell? ⟨b,1,none⟩=some (.slice (some ⟨g,0,none⟩) l.length cap):=by
  have:w.drew.heap[b]? =some (.cells #[p,.slice (some ⟨g,0,none⟩) l.length cap] 237 (0,0)):=i;rw[Aa this];rfl
 have E:(Builtin.unsafeSliceData_ #[69] 185 #[.slice (some ⟨g,0,none⟩) l.length cap]).run Tryz.prog w.drew= .ok (.pointer (some ⟨g,0,none⟩)) w.drew:=
  Lib.run_unsafeSliceData_row _ _ _ _ _ _ (by omega)
 have F:(Builtin.unsafeString_ #[185,3] 9 #[.pointer (some ⟨g,0,none⟩),l.length]).run Tryz.prog w.drew= .ok (.string ⟨l.toArray⟩) (w.drew.freeze ⟨g,0,none⟩ l.length):=by
  refine Lib.run_unsafeString_row w.drew 185 3 9 5 Yx R9 g cur.size (by have u:w.drew.heap[g]? =some (.cells cur 5 (0,0)):=a;simp[World.shape?,u]) l o (by omega) (by unfold maxLen at m;omega) ?_;intro j x G;have:=c.cells (g:=g) rfl j (.int .u8 x.toNat) (by simp[Lib.byteCells,G]);exact this
 have H:C9 B b w (w.drew.freeze ⟨g,0,none⟩ l.length):=by
  have n:=L5.freeze g (g+1) g l.length w (Nat.le_refl _) (Nat.lt_succ_self _);refine⟨n.os,n.tape,n.output,n.size,fun k hk I y=>n.block k hk ?_⟩;rcases Nat.lt_trichotomy k g with h|h|h
  ·exact .inl h
  ·subst h
   rcases y with y|⟨cs,t,N,d,J⟩
   ·omega
   ·rw[d]at a
    injection a with a
    injection a with _ K
    exact absurd K J
  ·exact .inr h
 clear c i f d m s a o;go_enter Tryz.func157,Tryz.ntmps157
 go_wp2
 go_region
 all_goals (go_wp2;go_ret;exact⟨rfl,H⟩)
theorem gH (n:Int)(size:Nat)(a:size≤8):(Oct.Be n size).data.toList=Rc.p n size:=by
 unfold Oct.Be;rw[if_neg (by omega)]
 simp[Rc.p]
theorem Cm (n:Int)(size:Nat):(Rc.p n size).length=size:=Oct.Ba _ _
theorem Oe (s:ByteArray):(Rc.t s).length=2+s.size:=by
 unfold Rc.t;rw[List.length_append,Cm]
 simp
theorem aB (s:ByteArray)(h:s.size≤65535)(w:World):
 Cq 297 #[s] w fun e w'=>∃ x:ByteArray,e= .returned (.string x)∧x.data.toList=Rc.t s∧Bw w w':=by
 have f:=Hq (fun W=>Hu s.size 2 (by omega) (by omega) W);have c:min (s.size:Int) 65535=s.size:=by omega
 have hex:s.extract 0 s.size=s:=ByteArray.extract_zero_size;have g:(Oct.Be (s.size:Int) 2).size=2:=Oct.Bm _ 2 (by omega);have d:(Oct.Be (s.size:Int) 2).size+s.size≤281474976710656:=by omega
 have a:(Oct.Be (s.size:Int) 2++s).data.toList=Rc.t s:=by
  have e:(Oct.Be (s.size:Int) 2).data.toList=Rc.p s.size 2:=gH _ 2 (by omega);rw[ByteArray.data_append,Array.toList_append,e];rfl
 go_enter Tryz.func297,Tryz.ntmps297
 go_wp2_with((go_at_call 120;refine(f.out _).mono ?_;rintro e i ⟨rfl,b⟩))
 go_ret;exact⟨_,rfl,a,b⟩
theorem oZ (size:Nat)(b:size≤8)(xs:List Int)(k:Nat):((xs.take k).flatMap (fun n=>Rc.p n size)).length≤k*8:=by
 refine Nat.le_trans ?_ (Nat.mul_le_mul_right _ (show(xs.take k).length≤k by rw[List.length_take];omega));have c:∀ a:List Int,(∀ y∈a,((fun n=>Rc.p n size) y).length≤8)→(a.flatMap (fun n=>Rc.p n size)).length≤a.length*8:=by
  intro a
  induction a with
  |nil=>intro _;simp
  |cons y a ih=>
   intro h;rw[List.flatMap_cons,List.length_append,List.length_cons,Nat.succ_mul];have e:(Rc.p y size).length≤8:=h y (List.mem_cons_self ..)
   show(Rc.p y size).length+_≤_
   have f:=ih (fun z d=>h z (List.mem_cons_of_mem _ d));omega
 exact c _ (fun y g=>by show(Rc.p y size).length≤8;rw[Cm];exact b)
theorem S0 (B b g:Nat)(l:List UInt8)(size:Nat)(A:size≤8)(xs:List Int)(w:World)(h:Hp B b l w)(P:B≤w.heap.size)(J:w.heap[g]? =some (.cells (xs.map (Value.int .i64)).toArray 3 (0,0)))(C:g≠b)(hlen:l.length+xs.length*8≤140737488355328):
 Cq 282 #[.pointer (some ⟨b,0,none⟩),.int .i64 (size:Int),.slice (some ⟨g,0,none⟩) xs.length xs.length] w fun e w'=>e= .returned (.tuple #[])∧Hp B b (l++xs.flatMap (fun n=>Rc.p n size)) w'∧C9 B b w w':=by
 have L:=Hq h;have M:=Hq J;have D:=Hq (oZ size A xs);have N:=Hq (fun n W=>Hu n (size:Int) (by omega) (by omega) W);have E:=Hq (fun n=>gH n size A);have F:=Hq (fun n=>Oct.Bm n size A);clear h J;go_enter Tryz.func282,Tryz.ntmps282;go_wp2_with fail
 go_loopw [7,10] (fun _ i wr=>∃ k:Nat,k≤xs.length∧i= .int .i64 k∧Hp B b (l++(xs.take k).flatMap (fun n=>Rc.p n size)) wr∧C9 B b w wr) (fun _ i _=>xs.length-(intOf i).toNat)
 case atStart=>exact⟨0,Nat.zero_le _,rfl,by simpa using L.out,C9.refl _ _ _⟩
 case round=>
  obtain⟨k,hk,rfl,m,o⟩:=hrel;have q:=Hq m;have c:=Hq o;clear m o
  by_cases r:k<xs.length
  ·have O:wr.cell? ⟨g,k,none⟩=some (Value.int .i64 xs[k]):=by
    rw[Aa (c.out.at_ M.out C (by decide))]
    simp[r]
   have s:(xs.take (k+1)).flatMap (fun n=>Rc.p n size)=(xs.take k).flatMap (fun n=>Rc.p n size)++(fun n=>Rc.p n size) xs[k]:=by
    rw[List.take_add_one,List.flatMap_append,List.getElem?_eq_getElem r]
    simp
   have t:=Hq s;generalize xs[k]=x at O t;clear s;go_upto_region 3 with fail;refine Gs (S:=(fun _=>True)) (fun a=>?_) (by trivial);refine Qr 0 (some 14) (v:=?_) rfl ?_ (Qr 1 (some 15) (v:=?_) rfl ?_ (Qr 2 (some 16) (v:=?_) rfl ?_ (Qr 3 (some 17) (v:=?_) rfl ?_ (Qr 4 (some 18) (v:=?_) rfl ?_ ?_))))
   iterate 5 (rotate_left;focus(intro w G;(try dsimp only at G);go_simp;(try with_reducible rfl)))
   try simp only[Act.put,pS]
   refine Cz 5 fun K u=>?_
   go_simp
   refine(N.out x _).mono ?_;rintro e Q ⟨rfl,j⟩;have H:=Hq (q.out.below ((Below.refl _ wr).drew.trans j));have I:=Hq j.size;try go_simp
   refine Ct u (fun a=>?_) (by trivial);clear u K;refine Cz 6 fun K u=>?_
   go_simp
   refine(Sz B b _ (Oct.Be x (size:Int)) _ H.out (by have:=F.out x;have:=D.out k;rw[List.length_append];omega) (by have R:=c.out.size;have T:=I.out;have U:wr.drew.heap.size=wr.heap.size:=rfl;omega)).mono ?_;rintro e V ⟨rfl,d,f⟩;have y:=Hq d;have z:=Hq ((c.out.trans (C9.Et ((Below.refl _ wr).drew.trans j))).trans f);clear d f;try go_simp
   refine Ct u (fun a=>?_) (by trivial);clear u K;refine wpAnyH_done Kr ?_ _;clear a;go_wp2_with fail;go_roundw
   case rel=>exact⟨k+1,by omega,by go_num,by rw[t.out,← List.append_assoc];have h:=y.out;rw[E.out]at h;exact h,z.out⟩
   case measure=>simp[intOf];omega
  ·obtain rfl:k=xs.length:=by omega
   go_wp2_with fail
   first|go_end0|go_ret
   refine⟨rfl,?_,c.out⟩;have h:=q.out;rw[List.take_length]at h;exact h
theorem pA (xs:List ByteArray)(b:∀ s∈xs,s.size≤65535)(k:Nat):((xs.take k).flatMap Rc.t).length≤k*65537:=by
 refine Nat.le_trans ?_ (Nat.mul_le_mul_right _ (show(xs.take k).length≤k by rw[List.length_take];omega));have c:∀ a:List ByteArray,(∀ y∈a,(Rc.t y).length≤65537)→(a.flatMap Rc.t).length≤a.length*65537:=by
  intro a
  induction a with
  |nil=>intro _;simp
  |cons y a ih=>
   intro h;rw[List.flatMap_cons,List.length_append,List.length_cons,Nat.succ_mul];have f:(Rc.t y).length≤65537:=h y (List.mem_cons_self ..)
   show(Rc.t y).length+_≤_
   have g:=ih (fun z d=>h z (List.mem_cons_of_mem _ d));omega
 exact c _ (fun y e=>by rw[Oe];have:=b y (List.mem_of_mem_take e);omega)
theorem dF (B b g:Nat)(l:List UInt8)(xs:List ByteArray)(D:∀ s∈xs,s.size≤65535)(w:World)(h:Hp B b l w)(Y:B≤w.heap.size)(L:w.heap[g]? =some (.cells (xs.map Value.string).toArray 9 (0,0)))(E:g≠b)(hlen:l.length+xs.length*65537≤140737488355328):
 Cq 283 #[.pointer (some ⟨b,0,none⟩),.slice (some ⟨g,0,none⟩) xs.length xs.length] w fun e w'=>e= .returned (.tuple #[])∧Hp B b (l++xs.flatMap Rc.t) w'∧C9 B b w w':=by
 have O:=Hq h;have P:=Hq L;have F:=Hq (pA xs D);have Q:=Hq (fun s R W=>aB s R W);have G:=Hq D;clear h L D;go_enter Tryz.func283,Tryz.ntmps283;go_wp2_with fail
 go_loopw [5,8] (fun _ i wr=>∃ k:Nat,k≤xs.length∧i= .int .i64 k∧Hp B b (l++(xs.take k).flatMap Rc.t) wr∧C9 B b w wr) (fun _ i _=>xs.length-(intOf i).toNat)
 case atStart=>exact⟨0,Nat.zero_le _,rfl,by simpa using O.out,C9.refl _ _ _⟩
 case round=>
  obtain⟨k,hk,rfl,o,p⟩:=hrel;have q:=Hq o;have c:=Hq p;clear o p
  by_cases j:k<xs.length
  ·have T:wr.cell? ⟨g,k,none⟩=some (Value.string xs[k]):=by
    rw[Aa (c.out.at_ P.out E (by decide))]
    simp[j]
   have r:(xs.take (k+1)).flatMap Rc.t=(xs.take k).flatMap Rc.t++Rc.t xs[k]:=by
    rw[List.take_add_one,List.flatMap_append,List.getElem?_eq_getElem j]
    simp
   have u:=Hq r;have m:=Hq (G.out _ (List.getElem_mem j));generalize xs[k]=x at T u m;clear r;go_upto_region 3 with fail;refine Gs (S:=(fun _=>True)) (fun a=>?_) (by trivial);refine Qr 0 (some 12) (v:=?_) rfl ?_ (Qr 1 (some 13) (v:=?_) rfl ?_ (Qr 2 (some 14) (v:=?_) rfl ?_ (Qr 3 (some 15) (v:=?_) rfl ?_ ?_)))
   iterate 4 (rotate_left;focus(intro w H;(try dsimp only at H);go_simp;(try with_reducible rfl)))
   try simp only[Act.put,pS]
   refine Cz 4 fun K z=>?_
   go_simp
   refine(Q.out x m.out _).mono ?_;rintro e Z ⟨y,rfl,M,n⟩;have I:=Hq (q.out.below ((Below.refl _ wr).drew.trans n));have N:=Hq M;have J:=Hq n.size;clear M;try go_simp
   refine Ct z (fun a=>?_) (by trivial);clear z K;refine Cz 5 fun K z=>?_
   go_simp
   refine(Sz B b _ (y) _ I.out (by have U:=F.out k;have V:=Oe x;have X:y.size=(Rc.t x).length:=(by rw[← N.out];first|done|simp);have h4:=m.out;rw[List.length_append];omega) (by have U:=c.out.size;have V:=J.out;have X:wr.drew.heap.size=wr.heap.size:=rfl;omega)).mono ?_;rintro e w2 ⟨rfl,d,f⟩;have A:=Hq d;have C:=Hq ((c.out.trans (C9.Et ((Below.refl _ wr).drew.trans n))).trans f);clear d f;try go_simp
   refine Ct z (fun a=>?_) (by trivial);clear z K;refine wpAnyH_done Kr ?_ _;clear a;go_wp2_with fail;go_roundw
   case rel=>exact⟨k+1,by omega,by go_num,by rw[u.out,← List.append_assoc];have h:=A.out;rw[N.out]at h;exact h,C.out⟩
   case measure=>simp[intOf];omega
  ·obtain rfl:k=xs.length:=by omega
   go_wp2_with fail
   first|go_end0|go_ret
   refine⟨rfl,?_,c.out⟩;have h:=q.out;rw[List.take_length]at h;exact h
structure Wr (w:World) (a f b:Nat) (R F:Array Value) (l:List UInt8) (u:World):Prop where
 br:u.heap[a]? =some (.cells R 105 (0,0))
 bf:u.heap[f]? =some (.cells F 228 (0,0))
 wr:Hp (b+1) b l u
 ab:a<b∧f<b
 low:w.heap.size≤a
 below:Bw w u
theorem Wr.step {w u v:World}{a f b:Nat}{R F:Array Value}{l:List UInt8}(h:Wr w a f b R F l u)(c:Bw u v):Wr w a f b R F l v:=
 ⟨Ag h.br c,Ag h.bf c,h.wr.below c,h.ab,h.low,Af h.below c⟩
theorem Wr.U4 {w u v:World}{a f b:Nat}{R F:Array Value}{l c:List UInt8}(h:Wr w a f b R F l u)(d:Hp (b+1) b c v)(hk:C9 (b+1) b u v):Wr w a f b R F c v:=
 ⟨hk.at_ h.br (by have:=h.ab;omega) (by decide),hk.at_ h.bf (by have:=h.ab;omega) (by decide),d,h.ab,h.low,h.below.trans (hk.below (by have:=h.ab;have:=h.low;omega) (by have:=h.ab;have:=h.low;omega) h.below.size)⟩
theorem Wr.size {w u:World}{a f b:Nat}{R F:Array Value}{l:List UInt8}(h:Wr w a f b R F l u):b+1≤u.heap.size:=I7 h.wr
theorem Wr.put {w u:World}{a f b:Nat}{R F:Array Value}{l:List UInt8}(h:Wr w a f b R F l u)(size:Nat)(d:size≤8)(xs:List Int)(hlen:l.length+xs.length*8≤140737488355328):
 Cq 282 #[.pointer (some ⟨b,0,none⟩),.int .i64 (size:Int),.slice (some ⟨u.heap.size,0,none⟩) xs.length xs.length] (u.alloc (.cells (xs.map (Value.int .i64)).toArray 3)) fun e w'=>e= .returned (.tuple #[])∧Wr w a f b R F (l++xs.flatMap (fun n=>Rc.p n size)) w':=by
 have c:=h.step (Ac u (.cells (xs.map (Value.int .i64)).toArray 3));refine(S0 (b+1) b u.heap.size l size d xs _ c.wr c.size (heap_alloc_new u _) (by have:=h.size;omega) hlen).mono ?_;rintro e w' ⟨rfl,g,i⟩;exact⟨rfl,c.U4 g i⟩
theorem Wr.Lf {w u:World}{a f b:Nat}{R F:Array Value}{l:List UInt8}(h:Wr w a f b R F l u)(size:Nat)(c:size≤8)(x:Int)(hlen:l.length+8≤140737488355328):
 Cq 282 #[.pointer (some ⟨b,0,none⟩),.int .i64 (size:Int),.slice (some ⟨u.heap.size,0,none⟩) 1 1] (u.alloc (.cells #[x] 3)) fun e w'=>e= .returned (.tuple #[])∧Wr w a f b R F (l++Rc.p x size) w':=by
 refine(h.put size c [x] (by simpa using hlen)).mono ?_;rintro e w' ⟨rfl,d⟩;exact⟨rfl,by simpa using d⟩
theorem Wr.yW {w u:World}{a f b:Nat}{R F:Array Value}{l:List UInt8}(h:Wr w a f b R F l u)(size:Nat)(c:size≤8)(x y:Int)(hlen:l.length+16≤140737488355328):
 Cq 282 #[.pointer (some ⟨b,0,none⟩),.int .i64 (size:Int),.slice (some ⟨u.heap.size,0,none⟩) 2 2] (u.alloc (.cells #[x,y] 3)) fun e w'=>e= .returned (.tuple #[])∧Wr w a f b R F (l++(Rc.p x size++Rc.p y size)) w':=by
 refine(h.put size c [x,y] (by simpa using hlen)).mono ?_;rintro e w' ⟨rfl,d⟩;exact⟨rfl,by simpa using d⟩
theorem Wr.jS {w u:World}{a f b:Nat}{R F:Array Value}{l:List UInt8}(h:Wr w a f b R F l u)(size:Nat)(c:size≤8)(x y z:Int)(hlen:l.length+24≤140737488355328):
 Cq 282 #[.pointer (some ⟨b,0,none⟩),.int .i64 (size:Int),.slice (some ⟨u.heap.size,0,none⟩) 3 3] (u.alloc (.cells #[x,y,z] 3)) fun e w'=>e= .returned (.tuple #[])∧Wr w a f b R F (l++(Rc.p x size++(Rc.p y size++Rc.p z size))) w':=by
 refine(h.put size c [x,y,z] (by simpa using hlen)).mono ?_;rintro e w' ⟨rfl,d⟩;exact⟨rfl,by simpa using d⟩
theorem Wr.texts {w u:World}{a f b:Nat}{R F:Array Value}{l:List UInt8}(h:Wr w a f b R F l u)(xs:List ByteArray)(d:∀ s∈xs,s.size≤65535)(hlen:l.length+xs.length*65537≤140737488355328):
 Cq 283 #[.pointer (some ⟨b,0,none⟩),.slice (some ⟨u.heap.size,0,none⟩) xs.length xs.length] (u.alloc (.cells (xs.map Value.string).toArray 9)) fun e w'=>e= .returned (.tuple #[])∧Wr w a f b R F (l++xs.flatMap Rc.t) w':=by
 have c:=h.step (Ac u (.cells (xs.map Value.string).toArray 9));refine(dF (b+1) b u.heap.size l xs d _ c.wr c.size (heap_alloc_new u _) (by have:=h.size;omega) hlen).mono ?_;rintro e w' ⟨rfl,g,i⟩;exact⟨rfl,c.U4 g i⟩
theorem Wr.xN {w u:World}{a f b:Nat}{R F:Array Value}{l:List UInt8}(h:Wr w a f b R F l u)(x:ByteArray)(c:x.size≤65535)(hlen:l.length+65537≤140737488355328):
 Cq 283 #[.pointer (some ⟨b,0,none⟩),.slice (some ⟨u.heap.size,0,none⟩) 1 1] (u.alloc (.cells #[x] 9)) fun e w'=>e= .returned (.tuple #[])∧Wr w a f b R F (l++Rc.t x) w':=by
 refine(h.texts [x] (by simpa using c) (by simpa using hlen)).mono ?_;rintro e w' ⟨rfl,d⟩;exact⟨rfl,by simpa using d⟩
theorem Wr.pB {w u:World}{a f b:Nat}{R F:Array Value}{l:List UInt8}(h:Wr w a f b R F l u)(x y:ByteArray)(c:x.size≤65535)(hy:y.size≤65535)(hlen:l.length+131074≤140737488355328):
 Cq 283 #[.pointer (some ⟨b,0,none⟩),.slice (some ⟨u.heap.size,0,none⟩) 2 2] (u.alloc (.cells #[x,y] 9)) fun e w'=>e= .returned (.tuple #[])∧Wr w a f b R F (l++(Rc.t x++Rc.t y)) w':=by
 refine(h.texts [x,y] (by simpa using⟨c,hy⟩) (by simpa using hlen)).mono ?_;rintro e w' ⟨rfl,d⟩;exact⟨rfl,by simpa using d⟩
theorem Wr.done {w u:World}{a f b:Nat}{R F:Array Value}{l:List UInt8}(h:Wr w a f b R F l u)(c:l≠[]):
 Cq 157 #[.pointer (some ⟨b,0,none⟩)] u fun e w'=>e= .returned (.string ⟨l.toArray⟩)∧Bw w w':=by
 refine(aA (b+1) b l u h.wr c).mono ?_;rintro e w' ⟨rfl,hk⟩;exact⟨rfl,(h.U4 (h.wr) (C9.refl _ _ _)).below.trans (hk.below (by have:=h.ab;have:=h.low;omega) (by have:=h.ab;have:=h.low;omega) h.below.size)⟩
theorem P4 {w w1:World}{R F:Array Value}(a:Below (w.alloc (.cells R 105)).heap.size (w.alloc (.cells R 105)) w1):
 Wr w w.heap.size w1.heap.size (w1.heap.size+1) R F [] ((w1.alloc (.cells F 228)).alloc (.cells #[.pointer none,'s'] 237)):=by
 have c:Bw w w1:=Af (Ac _ _) a;have b:=a.size
 simp at b
 refine⟨?_,Q2 _ _ _,?_,⟨by omega,by omega⟩,Nat.le_refl _,Aj (Aj c)⟩
 ·exact Ag (Bs a) (Aj (Ac _ _))
 ·refine Hp.fresh _ _ _ (Nat.lt_succ_self _) ?_
  have:=heap_alloc_new (w1.alloc (.cells F 228)) (.cells #[.pointer none,'s'] 237)
  simpa using this
theorem jT (kind:Int)(hk:kind=1∨kind=5∨kind=6∨kind=7)(a prev b Ae next i ok os c root j es:Int)(d on f:ByteArray)(o:List Rc.Bc)(p:List Rc.Bv)(T D:Value)(_zo:d.size≤65535)(_zn:on.size≤65535)(_ze:f.size≤65535)(w:World):
 Cr 259 #[.agg (Cs a prev b kind Ae next i ok os d on c root f j es (T) (D))] w (.string ⟨(Rc.Di ⟨a,prev,b,kind,Ae,next,i,⟨ok,os,d,on⟩,c,root,⟨f,j,es⟩,o,p⟩).toArray⟩):=by
 have g:=Hq (fun W=>Ho kind W);rw[show Zr kind= .tuple #[Gz false false false false true,true]from by rcases hk with rfl|rfl|rfl|rfl<;>rfl]at g;have k:=Hq (show Rc.Di ⟨a,prev,b,kind,Ae,next,i,⟨ok,os,d,on⟩,c,root,⟨f,j,es⟩,o,p⟩=Rc.Gl ⟨a,prev,b,kind,Ae,next,i,⟨ok,os,d,on⟩,c,root,⟨f,j,es⟩,o,p⟩++[]from by unfold Rc.Di;congr 1;unfold Rc.Gf;simp only;rw[if_neg (by omega),if_neg (by omega),if_neg (by omega),if_neg (by omega),if_neg (by omega)]);clear hk;generalize Rc.Di ⟨a,prev,b,kind,Ae,next,i,⟨ok,os,d,on⟩,c,root,⟨f,j,es⟩,o,p⟩=bb at k ⊢;go_enter Tryz.func259,Tryz.ntmps259
 go_upto_region 3 with((go_at_call 272;(with_reducible refine(g.out _).mono ?_);rintro e y ⟨rfl,l⟩))
 have m:=Hq (P4 (R:=(Cs a prev b kind Ae next i ok os d on c root f j es (T) (D))) (F:=#[false,false,false,false,true]) l);obtain⟨V,x⟩:=ex ((y.alloc (.cells #[false,false,false,false,true] 228)).alloc (.cells #[.pointer none,'s'] 237));rw[← x]at m ⊢;clear x;have q:=Aa m.out.br;have r:=Aa m.out.bf;clear l g
 go_upto_region 4 with((go_at_call 282;refine(m.out.Lf 1 (by omega) kind (by simp only[List.length_nil];omega)).mono ?_;rintro e v1 ⟨rfl,n⟩;have H1:=Hq n;clear n;have s:=Aa H1.out.br;have t:=Aa H1.out.bf))
 clear q r m
 go_upto_region 20 with((go_at_call 282;refine(H1.out.jS 6 (by omega) a prev b (by simp only[List.length_append,Cm,List.length_nil];omega)).mono ?_;rintro e v2 ⟨rfl,n⟩;have u:=Hq n;clear n;have z:=Aa u.out.br;have A:=Aa u.out.bf))
 clear s t H1
 go_wp2_with((go_at_call 157;refine(u.out.done (by intro h;have:=congrArg List.length h;simp only[List.length_append,Cm,List.length_nil]at this;omega)).mono ?_;rintro e B ⟨rfl,v⟩))
 go_ret;refine⟨?_,v⟩;rw[k.out]
 simp[Rc.Gl]
theorem jU (a prev b Ae next i ok os c root j es:Int)(d on f:ByteArray)(m:List Rc.Bc)(n:List Rc.Bv)(T D:Value)(_zo:d.size≤65535)(_zn:on.size≤65535)(_ze:f.size≤65535)(w:World):
 Cr 259 #[.agg (Cs a prev b 4 Ae next i ok os d on c root f j es (T) (D))] w (.string ⟨(Rc.Di ⟨a,prev,b,4,Ae,next,i,⟨ok,os,d,on⟩,c,root,⟨f,j,es⟩,m,n⟩).toArray⟩):=by
 have k:=Hq (fun W=>Ho 4 W);rw[show Zr 4= .tuple #[Gz false false true false true,true]from rfl]at k;have l:=Hq (show Rc.Di ⟨a,prev,b,4,Ae,next,i,⟨ok,os,d,on⟩,c,root,⟨f,j,es⟩,m,n⟩=Rc.Gl ⟨a,prev,b,4,Ae,next,i,⟨ok,os,d,on⟩,c,root,⟨f,j,es⟩,m,n⟩++Rc.Gf ⟨a,prev,b,4,Ae,next,i,⟨ok,os,d,on⟩,c,root,⟨f,j,es⟩,m,n⟩from rfl);rw[Rc.Xb rfl]at l;generalize Rc.Di ⟨a,prev,b,4,Ae,next,i,⟨ok,os,d,on⟩,c,root,⟨f,j,es⟩,m,n⟩=bb at l ⊢;go_enter Tryz.func259,Tryz.ntmps259
 go_upto_region 3 with((go_at_call 272;(with_reducible refine(k.out _).mono ?_);rintro e B ⟨rfl,o⟩))
 have p:=Hq (P4 (R:=(Cs a prev b 4 Ae next i ok os d on c root f j es (T) (D))) (F:=#[false,false,true,false,true]) o);obtain⟨V,A⟩:=ex ((B.alloc (.cells #[false,false,true,false,true] 228)).alloc (.cells #[.pointer none,'s'] 237));rw[← A]at p ⊢;clear A;have r:=Aa p.out.br;have s:=Aa p.out.bf;clear o k
 go_upto_region 4 with((go_at_call 282;refine(p.out.Lf 1 (by omega) 4 (by simp only[List.length_nil];omega)).mono ?_;rintro e v1 ⟨rfl,g⟩;have H1:=Hq g;clear g;have t:=Aa H1.out.br;have u:=Aa H1.out.bf))
 clear r s p
 go_upto_region 17 with((go_at_call 282;refine(H1.out.jS 6 (by omega) a prev b (by simp only[List.length_append,Cm,List.length_nil];omega)).mono ?_;rintro e v2 ⟨rfl,g⟩;have q:=Hq g;clear g;have v:=Aa q.out.br;have x:=Aa q.out.bf))
 clear t u H1
 go_upto_region 20 with((go_at_call 282;refine(q.out.Lf 6 (by omega) next (by simp only[List.length_append,Cm,List.length_nil];omega)).mono ?_;rintro e v3 ⟨rfl,g⟩;have y:=Hq g;clear g;have C:=Aa y.out.br;have E:=Aa y.out.bf))
 clear v x q
 go_wp2_with((go_at_call 157;refine(y.out.done (by intro h;have:=congrArg List.length h;simp only[List.length_append,Cm,List.length_nil]at this;omega)).mono ?_;rintro e G ⟨rfl,z⟩))
 go_ret;refine⟨?_,z⟩;rw[l.out]
 simp[Rc.Gl,List.append_assoc]
theorem dG (a prev b Ae next i ok os d root j es:Int)(f on g:ByteArray)(m:List Rc.Bc)(n:List Rc.Bv)(T D:Value)(M:f.size≤65535)(N:on.size≤65535)(_ze:g.size≤65535)(w:World):
 Cr 259 #[.agg (Cs a prev b 8 Ae next i ok os f on d root g j es (T) (D))] w (.string ⟨(Rc.Di ⟨a,prev,b,8,Ae,next,i,⟨ok,os,f,on⟩,d,root,⟨g,j,es⟩,m,n⟩).toArray⟩):=by
 have k:=Hq (fun W=>Ho 8 W);rw[show Zr 8= .tuple #[Gz true false false false true,true]from rfl]at k;have l:=Hq (show Rc.Di ⟨a,prev,b,8,Ae,next,i,⟨ok,os,f,on⟩,d,root,⟨g,j,es⟩,m,n⟩=Rc.Gl ⟨a,prev,b,8,Ae,next,i,⟨ok,os,f,on⟩,d,root,⟨g,j,es⟩,m,n⟩++Rc.Gf ⟨a,prev,b,8,Ae,next,i,⟨ok,os,f,on⟩,d,root,⟨g,j,es⟩,m,n⟩from rfl);rw[Rc.Rv rfl]at l;generalize Rc.Di ⟨a,prev,b,8,Ae,next,i,⟨ok,os,f,on⟩,d,root,⟨g,j,es⟩,m,n⟩=bb at l ⊢;go_enter Tryz.func259,Tryz.ntmps259
 go_upto_region 3 with((go_at_call 272;(with_reducible refine(k.out _).mono ?_);rintro e O ⟨rfl,o⟩))
 have p:=Hq (P4 (R:=(Cs a prev b 8 Ae next i ok os f on d root g j es (T) (D))) (F:=#[true,false,false,false,true]) o);obtain⟨V,L⟩:=ex ((O.alloc (.cells #[true,false,false,false,true] 228)).alloc (.cells #[.pointer none,'s'] 237));rw[← L]at p ⊢;clear L;have u:=Aa p.out.br;have v:=Aa p.out.bf;clear o k
 go_upto_region 4 with((go_at_call 282;refine(p.out.Lf 1 (by omega) 8 (by simp only[List.length_nil];omega)).mono ?_;rintro e v1 ⟨rfl,c⟩;have H1:=Hq c;clear c;have x:=Aa H1.out.br;have y:=Aa H1.out.bf))
 clear u v p
 go_upto_region 6 with((go_at_call 282;refine(H1.out.jS 6 (by omega) a prev b (by simp only[List.length_append,Cm,List.length_nil];omega)).mono ?_;rintro e v2 ⟨rfl,c⟩;have q:=Hq c;clear c;have z:=Aa q.out.br;have A:=Aa q.out.bf))
 clear x y H1
 go_upto_region 7 with((go_at_call 282;refine(q.out.Lf 3 (by omega) Ae (by simp only[List.length_append,Cm,List.length_nil];omega)).mono ?_;rintro e v3 ⟨rfl,c⟩;have r:=Hq c;clear c;have B:=Aa r.out.br;have C:=Aa r.out.bf))
 clear z A q
 go_upto_region 8 with((go_at_call 282;refine(r.out.Lf 1 (by omega) ok (by simp only[List.length_append,Cm,List.length_nil];omega)).mono ?_;rintro e v4 ⟨rfl,c⟩;have s:=Hq c;clear c;have E:=Aa s.out.br;have G:=Aa s.out.bf))
 clear B C r
 go_upto_region 9 with((go_at_call 282;refine(s.out.Lf 2 (by omega) os (by simp only[List.length_append,Cm,List.length_nil];omega)).mono ?_;rintro e v5 ⟨rfl,c⟩;have t:=Hq c;clear c;have H:=Aa t.out.br;have I:=Aa t.out.bf))
 clear E G s
 go_upto_region 20 with((go_at_call 283;refine(t.out.pB f on M N (by simp only[List.length_append,Cm,List.length_nil];omega)).mono ?_;rintro e v6 ⟨rfl,c⟩;have J:=Hq c;clear c;have P:=Aa J.out.br;have Q:=Aa J.out.bf))
 clear H I t
 go_wp2_with((go_at_call 157;refine(J.out.done (by intro h;have:=congrArg List.length h;simp only[List.length_append,Cm,List.length_nil]at this;omega)).mono ?_;rintro e S ⟨rfl,K⟩))
 go_ret;refine⟨?_,K⟩;rw[l.out]
 simp[Rc.Gl,Rc.Nl,List.append_assoc]
theorem pC (b prev c Ae next i ok os d root j es:Int)(f on g:ByteArray)(m:List Rc.Bc)(n:List Rc.Bv)(T D:Value)(P:f.size≤65535)(Q:on.size≤65535)(_ze:g.size≤65535)(w:World):
 Cr 259 #[.agg (Cs b prev c 3 Ae next i ok os f on d root g j es (T) (D))] w (.string ⟨(Rc.Di ⟨b,prev,c,3,Ae,next,i,⟨ok,os,f,on⟩,d,root,⟨g,j,es⟩,m,n⟩).toArray⟩):=by
 have k:=Hq (fun W=>Ho 3 W);rw[show Zr 3= .tuple #[Gz true false true false true,true]from rfl]at k;have l:=Hq (show Rc.Di ⟨b,prev,c,3,Ae,next,i,⟨ok,os,f,on⟩,d,root,⟨g,j,es⟩,m,n⟩=Rc.Gl ⟨b,prev,c,3,Ae,next,i,⟨ok,os,f,on⟩,d,root,⟨g,j,es⟩,m,n⟩++Rc.Gf ⟨b,prev,c,3,Ae,next,i,⟨ok,os,f,on⟩,d,root,⟨g,j,es⟩,m,n⟩from rfl);rw[Rc.Ru rfl]at l;generalize Rc.Di ⟨b,prev,c,3,Ae,next,i,⟨ok,os,f,on⟩,d,root,⟨g,j,es⟩,m,n⟩=bb at l ⊢;go_enter Tryz.func259,Tryz.ntmps259
 go_upto_region 3 with((go_at_call 272;(with_reducible refine(k.out _).mono ?_);rintro e S ⟨rfl,o⟩))
 have p:=Hq (P4 (R:=(Cs b prev c 3 Ae next i ok os f on d root g j es (T) (D))) (F:=#[true,false,true,false,true]) o);obtain⟨V,O⟩:=ex ((S.alloc (.cells #[true,false,true,false,true] 228)).alloc (.cells #[.pointer none,'s'] 237));rw[← O]at p ⊢;clear O;have v:=Aa p.out.br;have x:=Aa p.out.bf;clear o k
 go_upto_region 4 with((go_at_call 282;refine(p.out.Lf 1 (by omega) 3 (by simp only[List.length_nil];omega)).mono ?_;rintro e v1 ⟨rfl,a⟩;have H1:=Hq a;clear a;have y:=Aa H1.out.br;have z:=Aa H1.out.bf))
 clear v x p
 go_upto_region 6 with((go_at_call 282;refine(H1.out.jS 6 (by omega) b prev c (by simp only[List.length_append,Cm,List.length_nil];omega)).mono ?_;rintro e v2 ⟨rfl,a⟩;have q:=Hq a;clear a;have A:=Aa q.out.br;have B:=Aa q.out.bf))
 clear y z H1
 go_upto_region 7 with((go_at_call 282;refine(q.out.Lf 3 (by omega) Ae (by simp only[List.length_append,Cm,List.length_nil];omega)).mono ?_;rintro e v3 ⟨rfl,a⟩;have r:=Hq a;clear a;have C:=Aa r.out.br;have E:=Aa r.out.bf))
 clear A B q
 go_upto_region 8 with((go_at_call 282;refine(r.out.Lf 1 (by omega) ok (by simp only[List.length_append,Cm,List.length_nil];omega)).mono ?_;rintro e v4 ⟨rfl,a⟩;have s:=Hq a;clear a;have G:=Aa s.out.br;have H:=Aa s.out.bf))
 clear C E r
 go_upto_region 9 with((go_at_call 282;refine(s.out.Lf 2 (by omega) os (by simp only[List.length_append,Cm,List.length_nil];omega)).mono ?_;rintro e v5 ⟨rfl,a⟩;have t:=Hq a;clear a;have I:=Aa t.out.br;have J:=Aa t.out.bf))
 clear G H s
 go_upto_region 17 with((go_at_call 283;refine(t.out.pB f on P Q (by simp only[List.length_append,Cm,List.length_nil];omega)).mono ?_;rintro e v6 ⟨rfl,a⟩;have u:=Hq a;clear a;have K:=Aa u.out.br;have L:=Aa u.out.bf))
 clear I J t
 go_upto_region 20 with((go_at_call 282;refine(u.out.Lf 6 (by omega) next (by simp only[List.length_append,Cm,Oe,List.length_nil];omega)).mono ?_;rintro e Y ⟨rfl,a⟩;have M:=Hq a;clear a;have U:=Aa M.out.br;have X:=Aa M.out.bf))
 clear K L u
 go_wp2_with((go_at_call 157;refine(M.out.done (by intro h;have:=congrArg List.length h;simp only[List.length_append,Cm,List.length_nil]at this;omega)).mono ?_;rintro e Z ⟨rfl,N⟩))
 go_ret;refine⟨?_,N⟩;rw[l.out]
 simp[Rc.Gl,Rc.Nl,List.append_assoc]
theorem aC (c prev d Ae next k ok os b root j es:Int)(f on g:ByteArray)(o:List Rc.Bc)(p:List Rc.Bv)(T D:Value)(zo:f.size≤65535)(zn:on.size≤65535)(ze:g.size≤65535)(w:World):
 Cr 259 #[.agg (Cs c prev d 2 Ae next k ok os f on b root g j es (T) (D))] w (.string ⟨(Rc.Di ⟨c,prev,d,2,Ae,next,k,⟨ok,os,f,on⟩,b,root,⟨g,j,es⟩,o,p⟩).toArray⟩):=by
 have l:=Hq (fun W=>Ho 2 W);rw[show Zr 2= .tuple #[Gz true true false false true,true]from rfl]at l;have i:=Hq (show Rc.Di ⟨c,prev,d,2,Ae,next,k,⟨ok,os,f,on⟩,b,root,⟨g,j,es⟩,o,p⟩=Rc.Gl ⟨c,prev,d,2,Ae,next,k,⟨ok,os,f,on⟩,b,root,⟨g,j,es⟩,o,p⟩++Rc.Gf ⟨c,prev,d,2,Ae,next,k,⟨ok,os,f,on⟩,b,root,⟨g,j,es⟩,o,p⟩from rfl);rw[Rc.O1 rfl]at i;generalize Rc.Di ⟨c,prev,d,2,Ae,next,k,⟨ok,os,f,on⟩,b,root,⟨g,j,es⟩,o,p⟩=bb at i ⊢;go_enter Tryz.func259,Tryz.ntmps259
 go_upto_region 3 with((go_at_call 272;(with_reducible refine(l.out _).mono ?_);rintro e w1 ⟨rfl,q⟩))
 have r:=Hq (P4 (R:=(Cs c prev d 2 Ae next k ok os f on b root g j es (T) (D))) (F:=#[true,true,false,false,true]) q);obtain⟨V,hV⟩:=ex ((w1.alloc (.cells #[true,true,false,false,true] 228)).alloc (.cells #[.pointer none,'s'] 237));rw[← hV]at r ⊢;clear hV;have C:=Aa r.out.br;have E:=Aa r.out.bf;clear q l
 go_upto_region 4 with((go_at_call 282;refine(r.out.Lf 1 (by omega) 2 (by simp only[List.length_nil];omega)).mono ?_;rintro e v1 ⟨rfl,a⟩;have H1:=Hq a;clear a;have G:=Aa H1.out.br;have H:=Aa H1.out.bf))
 clear C E r
 go_upto_region 6 with((go_at_call 282;refine(H1.out.jS 6 (by omega) c prev d (by simp only[List.length_append,Cm,List.length_nil];omega)).mono ?_;rintro e v2 ⟨rfl,a⟩;have t:=Hq a;clear a;have I:=Aa t.out.br;have J:=Aa t.out.bf))
 clear G H H1
 go_upto_region 7 with((go_at_call 282;refine(t.out.Lf 3 (by omega) Ae (by simp only[List.length_append,Cm,List.length_nil];omega)).mono ?_;rintro e v3 ⟨rfl,a⟩;have u:=Hq a;clear a;have K:=Aa u.out.br;have L:=Aa u.out.bf))
 clear I J t
 go_upto_region 8 with((go_at_call 282;refine(u.out.Lf 1 (by omega) ok (by simp only[List.length_append,Cm,List.length_nil];omega)).mono ?_;rintro e v4 ⟨rfl,a⟩;have v:=Hq a;clear a;have M:=Aa v.out.br;have N:=Aa v.out.bf))
 clear K L u
 go_upto_region 9 with((go_at_call 282;refine(v.out.Lf 2 (by omega) os (by simp only[List.length_append,Cm,List.length_nil];omega)).mono ?_;rintro e v5 ⟨rfl,a⟩;have x:=Hq a;clear a;have O:=Aa x.out.br;have P:=Aa x.out.bf))
 clear M N v
 go_upto_region 11 with((go_at_call 283;refine(x.out.pB f on zo zn (by simp only[List.length_append,Cm,List.length_nil];omega)).mono ?_;rintro e v6 ⟨rfl,a⟩;have y:=Hq a;clear a;have Q:=Aa y.out.br;have S:=Aa y.out.bf))
 clear O P x
 go_upto_region 12 with((go_at_call 282;refine(y.out.Lf 1 (by omega) b (by simp only[List.length_append,Cm,Oe,List.length_nil];omega)).mono ?_;rintro e v7 ⟨rfl,a⟩;have s:=Hq a;clear a;have U:=Aa s.out.br;have X:=Aa s.out.bf))
 clear Q S y
 by_cases z:b=1
 ·subst z
  go_upto_region 20 with fail
  go_wp2_with((go_at_call 157;refine(s.out.done (by intro h;have:=congrArg List.length h;simp only[List.length_append,Cm,List.length_nil]at this;omega)).mono ?_;rintro e w9 ⟨rfl,m⟩))
  go_ret;refine⟨?_,m⟩;rw[i.out]
  simp[Rc.Gl,Rc.Nl,Rc.Nv,List.append_assoc]
 ·have ad:(b != 1)=true:=by simpa using z
  have HH:=Hq z;clear z;go_upto_region 13 with fail
  go_upto_region 14 with((go_at_call 282;refine(s.out.yW 3 (by omega) root j (by simp only[List.length_append,Cm,Oe,List.length_nil];omega)).mono ?_;rintro e v8 ⟨rfl,a⟩;have A:=Hq a;clear a;have Y:=Aa A.out.br;have Z:=Aa A.out.bf))
  clear U X s
  go_upto_region 15 with((go_at_call 282;refine(A.out.Lf 2 (by omega) es (by simp only[List.length_append,Cm,Oe,List.length_nil];omega)).mono ?_;rintro e v9 ⟨rfl,a⟩;have B:=Hq a;clear a;have a1:=Aa B.out.br;have a6:=Aa B.out.bf))
  clear Y Z A
  go_upto_region 20 with((go_at_call 283;refine(B.out.xN g ze (by simp only[List.length_append,Cm,Oe,List.length_nil];omega)).mono ?_;rintro e v10 ⟨rfl,a⟩;have n:=Hq a;clear a;have a8:=Aa n.out.br;have aa:=Aa n.out.bf))
  clear a1 a6 B
  go_wp2_with((go_at_call 157;refine(n.out.done (by intro h;have:=congrArg List.length h;simp only[List.length_append,Cm,List.length_nil]at this;omega)).mono ?_;rintro e w9 ⟨rfl,m⟩))
  go_ret;refine⟨?_,m⟩;rw[i.out];have a7:=HH.out
  simp[a7,Rc.Gl,Rc.Nl,Rc.Nv,List.append_assoc]
theorem S1 {b:Nat}{l:List UInt8}{v:World}(h:Hp (b+1) b l v)(size:Nat)(a:size≤8)(x:Int)(hlen:l.length+8≤140737488355328):
 Cq 282 #[.pointer (some ⟨b,0,none⟩),.int .i64 (size:Int),.slice (some ⟨v.heap.size,0,none⟩) 1 1] (v.alloc (.cells #[x] 3)) fun e w'=>e= .returned (.tuple #[])∧Hp (b+1) b (l++Rc.p x size) w'∧C9 (b+1) b v w':=by
 have f:=I7 h;refine(S0 (b+1) b v.heap.size l size a [x] _ (h.below (Ac v _)) (by simp;omega) (heap_alloc_new v _) (by omega) (by simpa using hlen)).mono ?_;rintro e w' ⟨rfl,c,d⟩;exact⟨rfl,by simpa using c,(C9.Et (Ac v _)).trans d⟩
theorem xO {b:Nat}{l:List UInt8}{v:World}(h:Hp (b+1) b l v)(size:Nat)(a:size≤8)(x y z:Int)(hlen:l.length+24≤140737488355328):
 Cq 282 #[.pointer (some ⟨b,0,none⟩),.int .i64 (size:Int),.slice (some ⟨v.heap.size,0,none⟩) 3 3] (v.alloc (.cells #[x,y,z] 3)) fun e w'=>e= .returned (.tuple #[])∧Hp (b+1) b (l++(Rc.p x size++(Rc.p y size++Rc.p z size))) w'∧C9 (b+1) b v w':=by
 have f:=I7 h;refine(S0 (b+1) b v.heap.size l size a [x,y,z] _ (h.below (Ac v _)) (by simp;omega) (heap_alloc_new v _) (by omega) (by simpa using hlen)).mono ?_;rintro e w' ⟨rfl,c,d⟩;exact⟨rfl,by simpa using c,(C9.Et (Ac v _)).trans d⟩
theorem jV (t:Rc.Bc):(Rc.O0 t).length=19:=by unfold Rc.O0;simp only[List.length_append,Cm]
theorem aD (t:Rc.Bv):(Rc.Hn t).length=9:=by unfold Rc.Hn;simp only[List.length_append,Cm]
theorem aE (a:List Rc.Bc):(a.flatMap Rc.O0).length=a.length*19:=by
 induction a with
 |nil=>rfl
 |cons t a ih=>rw[List.flatMap_cons,List.length_append,jV,ih,List.length_cons];omega
theorem dH (a:List Rc.Bv):(a.flatMap Rc.Hn).length=a.length*9:=by
 induction a with
 |nil=>rfl
 |cons t a ih=>rw[List.flatMap_cons,List.length_append,aD,ih,List.length_cons];omega
theorem Vp {α:Type}(f:α→List UInt8)(xs:List α){k:Nat}(hk:k<xs.length):(xs.take (k+1)).flatMap f=(xs.take k).flatMap f++f xs[k]:=by
 rw[List.take_add_one,List.flatMap_append,List.getElem?_eq_getElem hk]
 simp
theorem jW (b:Nat)(l:List UInt8)(y prev z kind Ae next M ok os C root ep es:Int)(oo on ek:ByteArray)(m:List Rc.Bc)(q:List Rc.Bv)(A D:Option Addr)(c d:Nat)(u:World)(h:Hp (b+1) b l u)
 (hT:∀ v,C9 (b+1) b u v→Ym v A c m) (hD:∀ v,C9 (b+1) b u v→sI v D d q) (hl:l.length≤1000000) (ht:m.length≤1048576) (hd:q.length≤1048576):
 Cq 284 #[.pointer (some ⟨b,0,none⟩),.agg (Cs y prev z kind Ae next M ok os oo on C root ek ep es (.slice A m.length c) (.slice D q.length d))] u fun e w'=>e= .returned (.tuple #[])∧Hp (b+1) b (l++(Rc.p M 6++(Rc.p m.length 2++(m.flatMap Rc.O0++(Rc.p q.length 2++q.flatMap Rc.Hn))))) w'∧C9 (b+1) b u w':=by
 have aj:=I7 h;obtain⟨L1,N⟩:=ex (l++Rc.p M 6);obtain⟨L2,O⟩:=ex (L1++Rc.p m.length 2);obtain⟨L3,P⟩:=ex (L2++m.flatMap Rc.O0);obtain⟨L4,Q⟩:=ex (L3++Rc.p q.length 2);have z1:L1.length=l.length+6:=by rw[N,List.length_append,Cm]
 have z2:L2.length=l.length+8:=by rw[O,List.length_append,Cm,z1]
 have z3:L3.length=l.length+8+m.length*19:=by rw[P,List.length_append,aE,z2]
 have z4:L4.length=l.length+10+m.length*19:=by rw[Q,List.length_append,Cm,z3];omega
 have aa:=Hq (show l++(Rc.p M 6++(Rc.p m.length 2++(m.flatMap Rc.O0++(Rc.p q.length 2++q.flatMap Rc.Hn))))=L4++q.flatMap Rc.Hn by rw[Q,P,O,N];simp only[List.append_assoc]);have ak:=Hq N;have al:=Hq O;have an:=Hq P;have ao:=Hq Q;have V:=Hq (And.intro z1 (And.intro z2 (And.intro z3 (And.intro z4 (And.intro hl (And.intro ht hd))))));have HT:=Hq hT;have HD:=Hq hD;have HW:=Hq h;clear N O P Q z1 z2 z3 z4 hT hD h;go_enter Tryz.func284,Tryz.ntmps284;go_upto_region 1 with fail;have W:=Hq (HW.out.below (Ac u (.cells (Cs y prev z kind Ae next M ok os oo on C root ek ep es (.slice A m.length c) (.slice D q.length d)) 105)));have X:=Hq (C9.Et (B:=b+1) (b:=b) (Ac u (.cells (Cs y prev z kind Ae next M ok os oo on C root ek ep es (.slice A m.length c) (.slice D q.length d)) 105)));have E:=Hq (heap_alloc_new u (.cells (Cs y prev z kind Ae next M ok os oo on C root ek ep es (.slice A m.length c) (.slice D q.length d)) 105));obtain⟨a,ha⟩:=ex u.heap.size;obtain⟨v0,ad⟩:=ex (u.alloc (.cells (Cs y prev z kind Ae next M ok os oo on C root ek ep es (.slice A m.length c) (.slice D q.length d)) 105));rw[← ad]at W X E ⊢;rw[← ha]at E ⊢;have R:a≠b:=by omega
 clear ad ha aj HW;have aq:=Aa E.out
 go_upto_region 2 with((go_at_call 282;refine(S1 W.out 6 (by omega) M (by have:=V.out;omega)).mono ?_;rintro e v1 ⟨rfl,n,hk⟩))
 rw[← ak.out]at n;have ae:=Hq n;have af:=Hq (X.out.trans hk);have Y:=Hq (hk.at_ E.out R (by decide));clear aq W X E n hk;have ar:=Aa Y.out
 go_upto_region 3 with((go_at_call 282;refine(S1 ae.out 2 (by omega) m.length (by have:=V.out;omega)).mono ?_;rintro e v2 ⟨rfl,n,hk⟩))
 rw[← al.out]at n;have ag:=Hq n;have Z:=Hq (af.out.trans hk);have a1:=Hq (hk.at_ Y.out R (by decide));clear ar ae af Y n hk;have au:=Aa a1.out;go_wp2_with fail;clear au
 go_loopw [23] (fun i wr=>∃ k:Nat,k≤m.length∧i= .int .i64 k∧Hp (b+1) b (L2++(m.take k).flatMap Rc.O0) wr∧C9 (b+1) b v2 wr) (fun i _=>m.length-(intOf i).toNat)
 case atStart=>exact⟨0,Nat.zero_le _,rfl,by simpa using ag.out,C9.refl _ _ _⟩
 case round=>
  obtain⟨k,hk,rfl,F,G⟩:=hrel;have j:=Hq F;have o:=Hq G;clear F G
  by_cases H:k<m.length
  ·obtain⟨g,off,rfl,hc,a6,f⟩:=Cb Dn (HT.out wr (Z.out.trans o.out)) H
   have S:=f 0 _ rfl;have q1:=f 1 _ rfl;have q2:=f 2 _ rfl;have q3:=f 3 _ rfl;simp only[Nat.add_zero]at S;have w:=Hq (Vp Rc.O0 m H);have r:=Hq (aE (m.take k));rw[List.length_take]at r;generalize m[k]=x at S q1 q2 q3 w;obtain⟨xt,xl,xn,xd⟩:=x;dsimp only at S q1 q2 q3;clear f
   go_upto_region 6 with((with_reducible refine sN #[xt,xl,xn,xd] ?_))
   have I:=Hq (heap_alloc_new wr (.cells #[xt,xl,xn,xd] 107));have s:=Hq (j.out.below (Ac wr (.cells #[xt,xl,xn,xd] 107)));have t:=Hq (o.out.trans (C9.Et (Ac wr (.cells #[xt,xl,xn,xd] 107))));have J:wr.heap.size≠b:=(by have:=I7 j.out;omega);obtain⟨xa,K⟩:=ex wr.heap.size;obtain⟨v3,L⟩:=ex (wr.alloc (.cells #[xt,xl,xn,xd] 107));rw[← L]at I s t ⊢;rw[← K]at I J ⊢;clear S q1 q2 q3 L K j o a6;have hX:=Aa I.out
   go_upto_region 7 with((go_at_call 282;refine(xO s.out 6 (by omega) xt xl xn (by have:=V.out;have:=r.out;rw[List.length_append];omega)).mono ?_;rintro e v4 ⟨rfl,n,hk⟩))
   have T:=Hq n;have U:=Hq (t.out.trans hk);have a7:=Hq (hk.at_ I.out J (by decide));clear hX s t I n hk;have av:=Aa a7.out
   cases xd with
   |true=>
    go_wp2_with((go_at_call 282;refine(S1 T.out 1 (by omega) 1 (by have:=V.out;have:=r.out;simp only[List.length_append,Cm];omega)).mono ?_;rintro e v5 ⟨rfl,n,hk⟩))
    go_roundw
    case rel=>exact⟨k+1,by omega,by go_num,by rw[w.out];simpa[Rc.O0,List.append_assoc]using n,U.out.trans hk⟩
    case measure=>simp[intOf];omega
   |false=>
    go_wp2_with((go_at_call 282;refine(S1 T.out 1 (by omega) 0 (by have:=V.out;have:=r.out;simp only[List.length_append,Cm];omega)).mono ?_;rintro e v5 ⟨rfl,n,hk⟩))
    go_roundw
    case rel=>exact⟨k+1,by omega,by go_num,by rw[w.out];simpa[Rc.O0,List.append_assoc]using n,U.out.trans hk⟩
    case measure=>simp[intOf];omega
  ·obtain rfl:k=m.length:=by omega
   obtain⟨v6,rfl⟩:=ex wr;rw[List.take_length,← an.out]at j;have ah:=Hq (Z.out.trans o.out);have a8:=Hq (o.out.at_ a1.out R (by decide));have aw:=Aa a8.out
   go_upto_region 13 with((go_at_call 282;refine(S1 j.out 2 (by omega) q.length (by have:=V.out;omega)).mono ?_;rintro e v7 ⟨rfl,n,hk⟩))
   rw[← ao.out]at n;have ax:=Hq n;have ai:=Hq (ah.out.trans hk);have ay:=Hq (hk.at_ a8.out R (by decide));clear aw j o ah a8 ag Z a1 n hk;have az:=Aa ay.out;go_wp2_with fail;clear az
   go_loopw [52] (fun i wr=>∃ k:Nat,k≤q.length∧i= .int .i64 k∧Hp (b+1) b (L4++(q.take k).flatMap Rc.Hn) wr∧C9 (b+1) b v7 wr) (fun i _=>q.length-(intOf i).toNat)
   case atStart=>exact⟨0,Nat.zero_le _,rfl,by simpa using ax.out,C9.refl _ _ _⟩
   case round=>
    obtain⟨k,hk,rfl,F,G⟩:=hrel;have j:=Hq F;have o:=Hq G;clear F G
    by_cases H:k<q.length
    ·obtain⟨g,off,rfl,hc,a6,f⟩:=Cb M1 (HD.out wr (ai.out.trans o.out)) H
     have S:=f 0 _ rfl;have q1:=f 1 _ rfl;simp only[Nat.add_zero]at S;have w:=Hq (Vp Rc.Hn q H);have r:=Hq (dH (q.take k));rw[List.length_take]at r;generalize q[k]=x at S q1 w;obtain⟨xp,xf⟩:=x;dsimp only at S q1;clear f
     go_upto_region 16 with((with_reducible refine sN #[xp,xf] ?_))
     have I:=Hq (heap_alloc_new wr (.cells #[xp,xf] 207));have s:=Hq (j.out.below (Ac wr (.cells #[xp,xf] 207)));have t:=Hq (o.out.trans (C9.Et (Ac wr (.cells #[xp,xf] 207))));have J:wr.heap.size≠b:=(by have:=I7 j.out;omega);obtain⟨xa,K⟩:=ex wr.heap.size;obtain⟨v3,L⟩:=ex (wr.alloc (.cells #[xp,xf] 207));rw[← L]at I s t ⊢;rw[← K]at I J ⊢;clear S q1 L K j o a6;have hX:=Aa I.out
     go_upto_region 17 with((go_at_call 282;refine(S1 s.out 3 (by omega) xp (by have:=V.out;have:=r.out;rw[List.length_append];omega)).mono ?_;rintro e v4 ⟨rfl,n,hk⟩))
     have T:=Hq n;have U:=Hq (t.out.trans hk);have a7:=Hq (hk.at_ I.out J (by decide));clear hX s t I n hk;have av:=Aa a7.out
     go_wp2_with((go_at_call 282;refine(S1 T.out 6 (by omega) xf (by have:=V.out;have:=r.out;simp only[List.length_append,Cm];omega)).mono ?_;rintro e v5 ⟨rfl,n,hk⟩))
     go_roundw
     case rel=>exact⟨k+1,by omega,by go_num,by rw[w.out];simpa[Rc.Hn,List.append_assoc]using n,U.out.trans hk⟩
     case measure=>simp[intOf];omega
    ·obtain rfl:k=q.length:=by omega
     rw[List.take_length,← aa.out]at j;have b0:=Hq (ai.out.trans o.out);go_wp2_with fail
     first|go_end0|go_ret
     exact⟨rfl,j.out,b0.out⟩
end Go.Proofs.YtpogpkonojhakaaGreatDoor
namespace Rc
theorem aF {r:Rec}(h:Bx r):r.op.By.size≤65535∧r.op.new.size≤65535∧r.e.key.size≤65535∧r.txns.length≤1048576∧r.dirty.length≤1048576∧1≤r.kind∧r.kind≤9:=by
 have m:Jo.By.size=0:=rfl;have o:Jo.new.size=0:=rfl;have p:Cg.key.size=0:=rfl
 cases h with
 |small kind a prev b hk d f g=>
  unfold bare;refine⟨by show Jo.By.size≤_;omega,by show Jo.new.size≤_;omega,by show Cg.key.size≤_;omega,by simp,by simp,?_,?_⟩<;>simp only<;>omega
 |change a prev b Ae op how root e d f g j c k=>
  obtain⟨_,_,_,o1,l⟩:=c;have q:e.key.size≤65535:=by
   rcases k with⟨_,_,i⟩|⟨_,_,_,_,i⟩
   ·simp only at i;rw[i];omega
   ·simp only at i;omega
  exact⟨by simp only;omega,by simp only;omega,q,by simp,by simp,by simp only;omega,by simp only;omega⟩
 |clr a prev b Ae op next d f g j c k=>
  obtain⟨_,_,_,o1,l⟩:=c;exact⟨by simp only;omega,by simp only;omega,by show Cg.key.size≤_;omega,by simp,by simp,by simp only;omega,by simp only;omega⟩
 |nest a prev b next d f g k=>
  exact⟨by show Jo.By.size≤_;omega,by show Jo.new.size≤_;omega,by show Cg.key.size≤_;omega,by simp,by simp,by simp only;omega,by simp only;omega⟩
 |image a prev b Ae op d f g j c=>
  obtain⟨_,_,_,o1,l⟩:=c;exact⟨by simp only;omega,by simp only;omega,by show Cg.key.size≤_;omega,by simp,by simp,by simp only;omega,by simp only;omega⟩
 |check a prev b n ts ds d f g j c=>
  obtain⟨s,t,_,_⟩:=c;simp only at s t;exact⟨by show Jo.By.size≤_;omega,by show Jo.new.size≤_;omega,by show Cg.key.size≤_;omega,by simp only;omega,by simp only;omega,by simp only;omega,by simp only;omega⟩
end Rc
namespace Go.Proofs.YtpogpkonojhakaaGreatDoor
open Go.RowKit
theorem Wr.By {w u v:World}{a f b:Nat}{R F:Array Value}{l:List UInt8}(h:Wr w a f b R F l u)(hk:C9 (b+1) b u v):Bw w v:=
 h.below.trans (hk.below (by have:=h.ab;have:=h.low;omega) (by have:=h.ab;have:=h.low;omega) h.below.size)
theorem dI (a prev b Ae next j ok os f root k es:Int)(l on m:ByteArray)(g:List Rc.Bc)(i:List Rc.Bv)(A D:Option Addr)(c d:Nat)(K:g.length≤1048576)(L:i.length≤1048576)(w:World)(G:Ym w A c g)(H:sI w D d i):
 Cr 259 #[.agg (Cs a prev b 9 Ae next j ok os l on f root m k es (.slice A g.length c) (.slice D i.length d))] w (.string ⟨(Rc.Di ⟨a,prev,b,9,Ae,next,j,⟨ok,os,l,on⟩,f,root,⟨m,k,es⟩,g,i⟩).toArray⟩):=by
 have o:=Hq (fun W=>Ho 9 W);rw[show Zr 9= .tuple #[Gz false false false true true,true]from rfl]at o;have p:=Hq (show Rc.Di ⟨a,prev,b,9,Ae,next,j,⟨ok,os,l,on⟩,f,root,⟨m,k,es⟩,g,i⟩=Rc.Gl ⟨a,prev,b,9,Ae,next,j,⟨ok,os,l,on⟩,f,root,⟨m,k,es⟩,g,i⟩++Rc.Gf ⟨a,prev,b,9,Ae,next,j,⟨ok,os,l,on⟩,f,root,⟨m,k,es⟩,g,i⟩from rfl);rw[Rc.gE rfl]at p;have M:=Hq G;have N:=Hq H;clear G H;generalize Rc.Di ⟨a,prev,b,9,Ae,next,j,⟨ok,os,l,on⟩,f,root,⟨m,k,es⟩,g,i⟩=bb at p ⊢;go_enter Tryz.func259,Tryz.ntmps259
 go_upto_region 3 with((go_at_call 272;(with_reducible refine(o.out _).mono ?_);rintro e O ⟨rfl,q⟩))
 have r:=Hq (P4 (R:=(Cs a prev b 9 Ae next j ok os l on f root m k es (.slice A g.length c) (.slice D i.length d))) (F:=#[false,false,false,true,true]) q);obtain⟨V,I⟩:=ex ((O.alloc (.cells #[false,false,false,true,true] 228)).alloc (.cells #[.pointer none,'s'] 237));rw[← I]at r ⊢;clear I;have u:=Aa r.out.br;have x:=Aa r.out.bf;clear q o
 go_upto_region 4 with((go_at_call 282;refine(r.out.Lf 1 (by omega) 9 (by simp only[List.length_nil];omega)).mono ?_;rintro e v1 ⟨rfl,s⟩;have H1:=Hq s;clear s;have y:=Aa H1.out.br;have z:=Aa H1.out.bf))
 clear u x r
 go_upto_region 19 with((go_at_call 282;refine(H1.out.jS 6 (by omega) a prev b (by simp only[List.length_append,Cm,List.length_nil];omega)).mono ?_;rintro e v2 ⟨rfl,s⟩;have n:=Hq s;clear s;have B:=Aa n.out.br;have C:=Aa n.out.bf))
 clear y z H1;have t:=Hq (jW _ _ a prev b 9 Ae next j ok os f root k es l on m g i A D c d v2 n.out.wr (fun v hk=>M.out.below (n.out.By hk)) (fun v hk=>N.out.below (n.out.By hk)) (by simp only[List.length_append,Cm,List.length_nil];omega) K L)
 go_upto_region 20 with(first
  |with_reducible refine lL n.out.br Bz ?_
  |(go_at_call 284;(with_reducible refine t.out.mono ?_);rintro e v3 ⟨rfl,J,hk⟩;have P:=Hq (n.out.U4 J hk);clear J hk))
 clear B C n t
 go_wp2_with((go_at_call 157;refine(P.out.done (by intro h;have:=congrArg List.length h;simp only[List.length_append,Cm,List.length_nil]at this;omega)).mono ?_;rintro e Q ⟨rfl,E⟩))
 go_ret;refine⟨?_,E⟩;rw[p.out]
 simp[Rc.Gl,Rc.Sr,List.append_assoc]
theorem pD (x:Rc.Rec)(n:Rc.Bx x)(A D:Option Addr)(c d:Nat)(w:World)(m:Ii w x A c D d):
 Cr 259 #[D8 x (.slice A x.txns.length c) (.slice D x.dirty.length d)] w (.string ⟨(Rc.Di x).toArray⟩):=by
 obtain⟨f,z2,z3,z4,z5,o,p⟩:=Rc.aF n;obtain⟨a,prev,b,kind,Ae,next,g,⟨ok,os,h,on⟩,e,root,⟨i,j,es⟩,k,l⟩:=x;simp only at f z2 z3 z4 z5 o p;have h9:kind=2∨kind=3∨kind=4∨kind=8∨kind=9∨kind=1∨kind=5∨kind=6∨kind=7:=by omega
 rcases h9 with rfl|rfl|rfl|rfl|rfl|h9
 ·exact aC a prev b Ae next g ok os e root j es h on i k l _ _ f z2 z3 w
 ·exact pC a prev b Ae next g ok os e root j es h on i k l _ _ f z2 z3 w
 ·exact jU a prev b Ae next g ok os e root j es h on i k l _ _ f z2 z3 w
 ·exact dG a prev b Ae next g ok os e root j es h on i k l _ _ f z2 z3 w
 ·exact dI a prev b Ae next g ok os e root j es h on i k l A D c d z4 z5 w m.txns m.dirty
 ·exact jT kind h9 a prev b Ae next g ok os e root j es h on i k l _ _ f z2 z3 w
end Go.Proofs.YtpogpkonojhakaaGreatDoor
