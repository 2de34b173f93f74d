import Derived.Test.YtpogpkonojhakaaGreatDoorHk00
import Derived.Test.YtpogpkonojhakaaGreatDoorHk06
import Derived.Test.YtpogpkonojhakaaGreatDoorHk45
import Derived.Test.YtpogpkonojhakaaGreatDoorHk46
import Derived.BigRegion
import Derived.Deep.RegionWith
set_option maxRecDepth 100000
set_option maxHeartbeats 16000000
set_option linter.unusedSimpArgs false
namespace Go.Proofs.YtpogpkonojhakaaGreatDoor
open Go.RowKit
theorem xR (n:Nat)(h:n<18446744073709551616)(size:Nat)(a:size≤8):(Oct.Be (n:Int) size).data.toList=Oct.Bl n size:=by
 rw[Oct.Cd _ _ a]
 congr 1
 unfold Oct.word;omega
theorem pL (s:ByteArray)(j:s.size≤1000000)(w:World):
 Cq 250 #[s] w fun e w'=>∃ x:ByteArray,e= .returned (.string x)∧x.data.toList=Oct.Bl (Oct.Gy s.data.toList) 4++s.data.toList∧Bw w w':=by
 have h:=Hq (fun W=>fV s (by omega) W);have c:Oct.Gy s.data.toList<18446744073709551616:=by have:=Oct.fU s.data.toList;omega
 have a:(Oct.Be ((Oct.Gy s.data.toList:Nat):Int) 4).data.toList=Oct.Bl (Oct.Gy s.data.toList) 4:=xR _ c 4 (by omega);generalize Oct.Gy s.data.toList=n at h a ⊢;have i:=Hq (fun W=>Hu (n:Int) 4 (by omega) (by omega) W);have f:(Oct.Be (n:Int) 4).size=4:=Oct.Bm _ 4 (by omega);have d:(Oct.Be (n:Int) 4).size+s.size≤281474976710656:=by omega
 have b:(Oct.Be (n:Int) 4++s).data.toList=Oct.Bl n 4++s.data.toList:=by
  rw[ByteArray.data_append,Array.toList_append,a]
 clear c a;generalize Oct.Be (n:Int) 4=x at i f d b;go_enter Tryz.func250,Tryz.ntmps250
 go_wp2_with(first|(go_at_call 267;refine(h.out _).mono ?_;rintro e k ⟨rfl,rfl⟩)|(go_at_call 120;refine(i.out _).mono ?_;rintro e l ⟨rfl,g⟩))
 go_ret;exact⟨_,rfl,b,g⟩
def Tf (r:Rc.Rec)(w:World)(e:Ending)(w':World):Prop:=
 (∃ x:ByteArray,Rc.Bx r∧e= .returned (.tuple #[x,()])∧x.data.toList=Lg.D9 r∨¬ Rc.Bx r∧e= .returned (.tuple #["",.int .i64 1]))∧Bw w w'
theorem Tg (r:Rc.Rec)(A D:Option Addr)(c d:Nat)(w:World)(s:Ii w r A c D d):
 Cq 219 #[D8 r (.slice A r.txns.length c) (.slice D r.dirty.length d)] w (Tf r w):=by
 have f:=Hq (fun W (h:Bw w W)=>dE r A D c d W (s.below h));have l:=Hq (heap_alloc_new w (.cells (Dz r (.slice A r.txns.length c) (.slice D r.dirty.length d)) 105))
 cases g:Rc.Dw r with
 |false=>
  rw[g]at f;have m:¬ Rc.Bx r:=fun h=>by rw[Rc.Fy h]at g;cases g
  have n:=Hq (fun w' (h:Bw w w')=>show Tf r w (.returned (.tuple #["",.int .i64 1])) w' from⟨⟨⟨#[]⟩,.inr ⟨m,rfl⟩⟩,h⟩);clear m g s;generalize Tf r w=Q at n ⊢;obtain⟨v,prev,B,kind,Ae,next,M,⟨ok,os,N,on⟩,C,root,⟨O,P,es⟩,R,S⟩:=r;dsimp only[D8,Dz]at f l ⊢;go_enter Tryz.func219,Tryz.ntmps219
  go_wp2_with(first
   |with_reducible refine lL l.out Bz ?_
   |(go_at_call 258;(with_reducible refine(f.out _ (Ac _ _)).mono ?_);rintro e T ⟨rfl,b⟩))
  exact n.out _ (Af (Ac _ _) b)
 |true=>
  rw[g]at f;have t:Rc.Bx r:=Rc.Sx.1 g;have u:=Hq (fun W (h:Bw w W)=>pD r t A D c d W (s.below h));obtain⟨y,E⟩:=ex (⟨(Rc.Di r).toArray⟩:ByteArray);rw[← E]at u;have i:y.data.toList=Rc.Di r:=by rw[E]
  have hlen:=Rc.M6 t;have o:y.size=(Rc.Di r).length:=by rw[← i];simp
  have F:y.size≤1000000:=by omega
  have U:=Hq (fun W=>pL y F W);have K:=Hq (fun W=>Hu (y.size:Int) 4 (by omega) (by omega) W);have j:(Oct.Be (y.size:Int) 4).data.toList=Oct.Bl y.size 4:=xR _ (by omega) 4 (by omega);have G:(Oct.Be (y.size:Int) 4).size=4:=Oct.Bm _ 4 (by omega);generalize Oct.Be (y.size:Int) 4=z at K j G;have n:=Hq (fun w' (x:ByteArray) (a:x.data.toList=Oct.Bl (Oct.Gy y.data.toList) 4++y.data.toList) (h:Bw w w')=>show Tf r w (.returned (.tuple #[.string (z++x),()])) w' from⟨⟨z++x,.inl ⟨t,rfl,by rw[ByteArray.data_append,Array.toList_append,j,a,i,o];rfl⟩⟩,h⟩);have V:=Hq (fun(x:ByteArray) (a:x.data.toList=Oct.Bl (Oct.Gy y.data.toList) 4++y.data.toList)=>show x.size≤1000004 from by
   have e:x.size=x.data.toList.length:=(by simp);rw[e,a,List.length_append,Oct.Ba];have Y:y.data.toList.length=y.size:=(by simp);omega)
  clear t g s E i hlen o j;generalize Tf r w=Q at n ⊢;obtain⟨v,prev,B,kind,Ae,next,M,⟨ok,os,N,on⟩,C,root,⟨O,P,es⟩,R,S⟩:=r;dsimp only[D8,Dz]at f l u ⊢;go_enter Tryz.func219,Tryz.ntmps219
  go_upto_region 3 with(first
   |with_reducible refine lL l.out Bz ?_
   |(go_at_call 258;(with_reducible refine(f.out _ (Ac _ _)).mono ?_);rintro e T ⟨rfl,b⟩))
  have p:=Hq (Ag l.out b);have k:=Hq (Af (Ac w _) b);clear b l f
  go_upto_region 4 with(first
   |with_reducible refine lL p.out Bz ?_
   |(go_at_call 259;(with_reducible refine(u.out _ k.out).mono ?_);rintro e Z ⟨rfl,q⟩))
  have H:=Hq (Af k.out q);clear q k p u
  go_wp2_with(first|(go_at_call 120;refine(K.out _).mono ?_;rintro e w3 ⟨rfl,I⟩)|(go_at_call 250;refine(U.out _).mono ?_;rintro e w4 ⟨x,rfl,a,J⟩;have X:=V.out x a;have L:z.size+x.size≤281474976710656:=(by omega)))
  exact n.out _ x a (Af (Af H.out I) J)
end Go.Proofs.YtpogpkonojhakaaGreatDoor
namespace Lg
theorem O2 {l:Lo}{r:Rc.Rec}(h:¬ Rc.Bx {r with lsn:=l.end_+1}):As l r=(l,0,1):=by
 unfold As;simp only;rw[if_pos h]
theorem Q6 {l:Lo}{r:Rc.Rec}(h:Rc.Bx {r with lsn:=l.end_+1})(a:l.n*128-((D9 {r with lsn:=l.end_+1}).length:Int)<l.end_):As l r=(l,0,18):=by
 unfold As;simp only;rw[if_neg (fun b=>b h),if_pos a]
theorem Vs {l:Lo}{r:Rc.Rec}(h:Rc.Bx {r with lsn:=l.end_+1})(a:¬ l.n*128-((D9 {r with lsn:=l.end_+1}).length:Int)<l.end_):As l r=({l with end_:=l.end_+((D9 {r with lsn:=l.end_+1}).length:Int),tail:=l.tail++⟨(D9 {r with lsn:=l.end_+1}).toArray⟩},l.end_+1,0):=by
 unfold As;simp only;rw[if_neg (fun b=>b h),if_neg a]
end Lg
namespace Go.Proofs.YtpogpkonojhakaaGreatDoor
open Go.RowKit
theorem dR (r:Rc.Rec)(a:Rc.Bx r)(A D:Option Addr)(c d:Nat)(w:World)(b:Ii w r A c D d):
 Cr 219 #[D8 r (.slice A r.txns.length c) (.slice D r.dirty.length d)] w (.tuple #[.string ⟨(Lg.D9 r).toArray⟩,()]):=by
 refine(Tg r A D c d w b).mono ?_;rintro e w' ⟨⟨x,h⟩,f⟩;rcases h with⟨_,rfl,g⟩|⟨h,_⟩
 ·exact⟨by rw[← g],f⟩
 ·exact absurd a h
theorem kG (r:Rc.Rec)(a:¬ Rc.Bx r)(A D:Option Addr)(c d:Nat)(w:World)(b:Ii w r A c D d):
 Cr 219 #[D8 r (.slice A r.txns.length c) (.slice D r.dirty.length d)] w (.tuple #["",.int .i64 1]):=by
 refine(Tg r A D c d w b).mono ?_;rintro e w' ⟨⟨x,h⟩,f⟩;rcases h with⟨h,_⟩|⟨_,rfl⟩
 ·exact absurd h a
 ·exact⟨rfl,f⟩
def Th (x:Lg.Lo×Int×Int)(w:World)(e:Ending)(w':World):Prop:=e= .returned (.tuple #[Nn x.1,x.2.1,x.2.2])∧Bw w w'
theorem Ti (l:Lg.Lo)(ae:0≤l.end_)(af:l.end_≤1000000000)(ag: -1000000000≤l.n)(ah:l.n≤1000000000)(ht:l.tail.size≤1000000000)(r:Rc.Rec)(A D:Option Addr)(c d:Nat)(w:World)(R:Ii w r A c D d):
 Cq 168 #[Nn l,D8 r (.slice A r.txns.length c) (.slice D r.dirty.length d)] w (Th (Lg.As l r) w):=by
 have P:=Hq (fun v W (hb:Bw w W)=>dR {r with lsn:=l.end_+1} v A D c d W ⟨R.txns.below hb,R.dirty.below hb,R.small⟩);have Q:=Hq (fun v W (hb:Bw w W)=>kG {r with lsn:=l.end_+1} v A D c d W ⟨R.txns.below hb,R.dirty.below hb,R.small⟩);have HN:=Hq (@Lg.O2 l r);have H:=Hq (@Lg.Q6 l r);have I:=Hq (@Lg.Vs l r);generalize Lg.As l r=o at HN H I ⊢;clear R;obtain⟨k,n,a,m,g⟩:=l;obtain⟨lsn,prev,b,kind,Ae,next,y,⟨ok,os,z,on⟩,f,root,⟨B,C,es⟩,E,F⟩:=r;dsimp only[D8,Dz,Nn]at P Q HN H I ae af ag ah ht ⊢;have al:IntKind.i64.wrap (a+1)=a+1:=IntWalk.i64_in _ (by omega)
 by_cases v:Rc.Bx ⟨a+1,prev,b,kind,Ae,next,y,⟨ok,os,z,on⟩,f,root,⟨B,C,es⟩,E,F⟩
 ·have HP:=Hq (P.out v)
  have t:=Hq (H.out v);have i:=Hq (I.out v);have J:(Lg.D9 ⟨a+1,prev,b,kind,Ae,next,y,⟨ok,os,z,on⟩,f,root,⟨B,C,es⟩,E,F⟩).length≤40008:=by rw[Lg.Mg];have:=(Rc.M6 v).2;omega
  obtain⟨x,hx⟩:=ex (⟨(Lg.D9 ⟨a+1,prev,b,kind,Ae,next,y,⟨ok,os,z,on⟩,f,root,⟨B,C,es⟩,E,F⟩).toArray⟩:ByteArray);have a6:(Lg.D9 ⟨a+1,prev,b,kind,Ae,next,y,⟨ok,os,z,on⟩,f,root,⟨B,C,es⟩,E,F⟩).length=x.size:=by rw[hx];show _=((Lg.D9 ⟨a+1,prev,b,kind,Ae,next,y,⟨ok,os,z,on⟩,f,root,⟨B,C,es⟩,E,F⟩).toArray).size;simp
  rw[a6]at t i J;rw[← hx]at HP i;have an:=J;clear P Q HN H I v hx a6 J;go_enter Tryz.func168,Tryz.ntmps168;go_upto_region 1 with fail;have p:=Nr w #[k,n,a,m,g] 30 (Cs lsn prev b kind Ae next y ok os z on f root B C es (.slice A E.length c) (.slice D F.length d)) 105 #[(),(),(),(),""] 30;obtain⟨T,q⟩:=E2 p;have U:T.heap.size=w.heap.size+3:=by rw[q];simp
  rw[← q]at p ⊢;have V:=Aa p.out.An;have X:=Aa p.out.Ar;have Y:=Ap p.out.Ar;clear q;go_upto_region 2 with fail;have H1:=Hq (show Ed w.heap.size w [(#[k,n,a,m,g],30),((Cs (a+1) prev b kind Ae next y ok os z on f root B C es (.slice A E.length c) (.slice D F.length d)),105),(#[(),(),(),(),""],30)] (T.setCell ⟨w.heap.size+1,0,none⟩ (.int .i64 (a+1)))from by have h:=p.out.set 1 0 (.int .i64 (a+1)) _ rfl;simpa using h);obtain⟨W1,L⟩:=ex (T.setCell ⟨w.heap.size+1,0,none⟩ (.int .i64 (a+1)));rw[← L]at H1 ⊢;clear L V X Y p U;have M:=Hq H1.out.Ar
  go_upto_region 3 with(first
   |with_reducible refine lL M.out Bz ?_
   |(go_at_call 219;(with_reducible refine(HP.out _ H1.out.below).mono ?_);rintro e w2 ⟨rfl,N⟩))
  have G:=Hq (H1.out.step N);clear N H1 M HP;have hm:IntKind.i64.wrap (n*128)=n*128:=IntWalk.i64_in _ (by omega);have ao:IntKind.i64.wrap (n*128-(x.size:Int))=n*128-(x.size:Int):=IntWalk.i64_in _ (by omega);have aq:IntKind.i64.wrap (a+(x.size:Int))=a+(x.size:Int):=IntWalk.i64_in _ (by omega)
  by_cases Z:n*128-(x.size:Int)<a
  ·have HO:=Hq (t.out Z)
   have j:=Hq (show w2.heap[w.heap.size]? =some (.cells #[k,n,a,m,g] 30 (0,0))from by have h:=G.out.An;simpa using h);have a7:=Aa j.out;clear t i
   go_wp2_with(first
    |with_reducible refine lL j.out Jk ?_
    |with_reducible refine lS #[k,n,a,m,g] G.out.Bj ?_)
   refine rT3 () (.int .i64 18) G.out.Bj Jk ?_;rw[HO.out];exact⟨rfl,(G.out.row 2 _ _ rfl).below⟩
  ·have HO:=Hq (i.out (by omega))
   have a8:∀ W:World,(Op.stringOp .add g x).run Tryz.prog W= .ok (.string (g++x)) W:=fun W=>run_string_add_sum W _ _ (by omega);have j:=Hq (show w2.heap[w.heap.size]? =some (.cells #[k,n,a,m,g] 30 (0,0))from by have h:=G.out.An;simpa using h);have a7:=Aa j.out;have ai:=Ap j.out;clear t i;go_upto_region 8 with fail;have H3:=Hq (show Ed w.heap.size w [(#[k,n,.int .i64 (a+(x.size:Int)),m,g],30),((Cs (a+1) prev b kind Ae next y ok os z on f root B C es (.slice A E.length c) (.slice D F.length d)),105),(#[(),(),(),(),""],30)] (w2.setCell ⟨w.heap.size,2,none⟩ (.int .i64 (a+(x.size:Int))))from by have h:=G.out.set 0 2 (.int .i64 (a+(x.size:Int))) _ rfl;simpa using h);obtain⟨W3,aa⟩:=ex (w2.setCell ⟨w.heap.size,2,none⟩ (.int .i64 (a+(x.size:Int))));rw[← aa]at H3 ⊢;clear aa a7 ai j G;have aj:=Aa H3.out.An;have ak:=Ap H3.out.An;go_upto_region 9 with fail;have H4:=Hq (show Ed w.heap.size w [(#[k,n,.int .i64 (a+(x.size:Int)),m,.string (g++x)],30),((Cs (a+1) prev b kind Ae next y ok os z on f root B C es (.slice A E.length c) (.slice D F.length d)),105),(#[(),(),(),(),""],30)] (W3.setCell ⟨w.heap.size,4,none⟩ (.string (g++x)))from by have h:=H3.out.set 0 4 (.string (g++x)) _ rfl;simpa using h);obtain⟨W4,ad⟩:=ex (W3.setCell ⟨w.heap.size,4,none⟩ (.string (g++x)));rw[← ad]at H4 ⊢;clear ad aj ak H3 a8;have s:=Hq H4.out.drew;refine Gs (S:=(fun u=>u.heap[w.heap.size]? =some (.cells #[k,n,.int .i64 (a+(x.size:Int)),m,.string (g++x)] 30 (0,0))∧u.heap[w.heap.size+1]? =some (.cells (Cs (a+1) prev b kind Ae next y ok os z on f root B C es (.slice A E.length c) (.slice D F.length d)) 105 (0,0)))) (fun O=>?_) (by first|exact hSn|exact⟨(by have h:=s.out.An;simpa using h),s.out.Ar⟩);refine Aw 0 ?_;refine Aw 1 ?_;refine Aw 2 ?_;refine Cz 3 fun K hK=>?_;refine Bh (by rfl) ?_;refine sW #[k,n,.int .i64 (a+(x.size:Int)),m,.string (g++x)] s.out.Bj ?_;have a1:=s.out.row 2 #[k,n,.int .i64 (a+(x.size:Int)),m,.string (g++x)] _ rfl;have hSn:=And.intro (show _=some (Obj.cells #[k,n,.int .i64 (a+(x.size:Int)),m,.string (g++x)] 30 (0,0))from by have h:=a1.get 0 _ rfl;simpa using h) (a1.get 1 _ rfl);refine Ct hK (fun O=>?_) (by first|exact hSn|exact⟨(by have h:=s.out.An;simpa using h),s.out.Ar⟩);clear hK K
   try simp only[Act.put]
   refine Aw 4 ?_;refine Aw 5 ?_;refine wpAnyH_done Kr ?_ _;clear O;go_wp2_with fail;refine rT3 (.int .i64 (a+1)) () s.out.Bj Jk ?_;rw[HO.out];exact⟨rfl,a1.below⟩
 ·have HO:=Hq (HN.out v)
  have HP:=Hq (Q.out v);clear P Q HN H I v;go_enter Tryz.func168,Tryz.ntmps168;go_upto_region 1 with fail;have p:=Nr w #[k,n,a,m,g] 30 (Cs lsn prev b kind Ae next y ok os z on f root B C es (.slice A E.length c) (.slice D F.length d)) 105 #[(),(),(),(),""] 30;obtain⟨T,q⟩:=E2 p;have U:T.heap.size=w.heap.size+3:=by rw[q];simp
  rw[← q]at p ⊢;have V:=Aa p.out.An;have X:=Aa p.out.Ar;have Y:=Ap p.out.Ar;clear q;go_upto_region 2 with fail;have H1:=Hq (show Ed w.heap.size w [(#[k,n,a,m,g],30),((Cs (a+1) prev b kind Ae next y ok os z on f root B C es (.slice A E.length c) (.slice D F.length d)),105),(#[(),(),(),(),""],30)] (T.setCell ⟨w.heap.size+1,0,none⟩ (.int .i64 (a+1)))from by have h:=p.out.set 1 0 (.int .i64 (a+1)) _ rfl;simpa using h);obtain⟨W1,L⟩:=ex (T.setCell ⟨w.heap.size+1,0,none⟩ (.int .i64 (a+1)));rw[← L]at H1 ⊢;clear L V X Y p U;have M:=Hq H1.out.Ar
  go_upto_region 3 with(first
   |with_reducible refine lL M.out Bz ?_
   |(go_at_call 219;(with_reducible refine(HP.out _ H1.out.below).mono ?_);rintro e w2 ⟨rfl,N⟩))
  have G:=Hq (H1.out.step N);clear N H1 M HP;have j:=Hq (show w2.heap[w.heap.size]? =some (.cells #[k,n,a,m,g] 30 (0,0))from by have h:=G.out.An;simpa using h)
  go_wp2_with(first
   |with_reducible refine lL j.out Jk ?_
   |with_reducible refine lS #[k,n,a,m,g] G.out.Bj ?_)
  refine rT3 () (.int .i64 1) G.out.Bj Jk ?_;rw[HO.out];exact⟨rfl,(G.out.row 2 _ _ rfl).below⟩
end Go.Proofs.YtpogpkonojhakaaGreatDoor
namespace Lg
end Lg
