import Derived.Test.YtpogpkonojhakaaGreatDoorHk00
import Derived.Test.YtpogpkonojhakaaGreatDoorHk04
import Derived.Test.YtpogpkonojhakaaGreatDoorHk05
import Derived.Test.YtpogpkonojhakaaGreatDoorHk41
import Derived.Test.YtpogpkonojhakaaGreatDoorHk42
import Derived.Test.YtpogpkonojhakaaGreatDoorHk43
import Derived.Test.YtpogpkonojhakaaGreatDoorHk44
import Derived.BigRegion
set_option maxRecDepth 100000
set_option maxHeartbeats 16000000
set_option linter.unusedSimpArgs false
namespace Go.Proofs.YtpogpkonojhakaaGreatDoor
open Go.RowKit
theorem dD (kind:Int)(hk:kind=1∨kind=5∨kind=6∨kind=7)(a prev b Ae next q ok os j root r es:Int)(s on t:ByteArray)(u:List Rc.Bc)(v:List Rc.Bv)(A B:Option Addr)(c d:Nat)(w:World)(I:Ii w ⟨a,prev,b,kind,Ae,next,q,⟨ok,os,s,on⟩,j,root,⟨t,r,es⟩,u,v⟩ A c B d):
 Cr 258 #[.agg (Cs a prev b kind Ae next q ok os s on j root t r es (.slice A u.length c) (.slice B v.length d))] w (.bool (Rc.Dw ⟨a,prev,b,kind,Ae,next,q,⟨ok,os,s,on⟩,j,root,⟨t,r,es⟩,u,v⟩)):=by
 have n:=Hq (fun W=>Ho kind W);rw[show Zr kind= .tuple #[Gz false false false false true,true]from by rcases hk with rfl|rfl|rfl|rfl<;>rfl]at n;have l:=Hq (fun W g h=>Le a prev b W g h);obtain⟨Q,J⟩:=ex (Rc.Dw ⟨a,prev,b,kind,Ae,next,q,⟨ok,os,s,on⟩,j,root,⟨t,r,es⟩,u,v⟩);rw[← J];have K:=Hq J;have o:=I.small;simp only at o;have S:=o.1;have T:=o.2;have L:=Hq I;clear J I o;have E:=Hq (Rc.Z7 kind hk a prev b Ae next q j root ⟨ok,os,s,on⟩ ⟨t,r,es⟩ u v)
 cases y:decide (Rc.num a∧Rc.num prev∧Rc.num b)with
 |false=>
  rw[y]at l;have Y:=Hq (K.out.trans (Rc.C7 fun h=>of_decide_eq_false y (E.out.1 h).1));clear y E;go_enter Tryz.func258,Tryz.ntmps258
  go_wp2_with(first
   |(go_at_call 272;(with_reducible refine(n.out _).mono ?_);rintro e z ⟨rfl,f⟩;have M:=Aa (Bs f);have N:w.heap.size<z.heap.size:=(by have:=f.size;simp at this;omega);have k:=Hq f;clear f)
   |(go_at_call 273;(with_reducible refine(l.out _ _ ?_).mono ?_);(with_reducible exact Fc _ _ _);rintro e G ⟨rfl,i⟩;have C:=Aa (Ag (Bs k.out) (Af (Aj (Ac _ _)) i));have O:z.heap.size+1<G.heap.size:=(by have:=i.size;simp at this;omega);have p:=Hq i;clear i)
   |with_reducible refine sN (Cs a prev b kind 0 0 0 0 0 ⟨#[]⟩ ⟨#[]⟩ 0 0 ⟨#[]⟩ 0 0 (.slice none 0 0) (.slice none 0 0)) ?_)
  go_ret;exact⟨by rw[Y.out];rfl,Af (Af (Ac _ _) k.out) (Af (Aj (Ac _ _)) p.out)⟩
 |true=>
  rw[y]at l;have Z:=Hq (of_decide_eq_true y);clear y;go_enter Tryz.func258,Tryz.ntmps258
  go_upto_region 5 with(first
   |(go_at_call 272;(with_reducible refine(n.out _).mono ?_);rintro e z ⟨rfl,f⟩;have M:=Aa (Bs f);have N:w.heap.size<z.heap.size:=(by have:=f.size;simp at this;omega);have k:=Hq f;clear f)
   |(go_at_call 273;(with_reducible refine(l.out _ _ ?_).mono ?_);(with_reducible exact Fc _ _ _);rintro e G ⟨rfl,i⟩;have C:=Aa (Ag (Bs k.out) (Af (Aj (Ac _ _)) i));have O:z.heap.size+1<G.heap.size:=(by have:=i.size;simp at this;omega);have p:=Hq i;clear i)
   |with_reducible refine sN (Cs a prev b kind 0 0 0 0 0 ⟨#[]⟩ ⟨#[]⟩ 0 0 ⟨#[]⟩ 0 0 (.slice none 0 0) (.slice none 0 0)) ?_)
  have m:=Hq (I6 (R:=(Cs a prev b kind Ae next q ok os s on j root t r es (.slice A u.length c) (.slice B v.length d))) (F:=#[false,false,false,false,true]) (X:=(Cs a prev b kind 0 0 0 0 0 ⟨#[]⟩ ⟨#[]⟩ 0 0 ⟨#[]⟩ 0 0 (.slice none 0 0) (.slice none 0 0))) k.out p.out);clear M C l n k p;obtain⟨V,U⟩:=ex (G.alloc (.cells (Cs a prev b kind 0 0 0 0 0 ⟨#[]⟩ ⟨#[]⟩ 0 0 ⟨#[]⟩ 0 0 (.slice none 0 0) (.slice none 0 0)) 105));rw[← U]at m ⊢;clear U;have M:=Aa m.out.br;have hF:=Aa m.out.bf
  go_upto_region 19 with(fail)
  have P:=Hq (Kq ⟨a,prev,b,kind,0,0,0,⟨0,0,⟨#[]⟩,⟨#[]⟩⟩,0,0,⟨⟨#[]⟩,0,0⟩,[],[]⟩ ⟨a,prev,b,kind,Ae,next,q,⟨ok,os,s,on⟩,j,root,⟨t,r,es⟩,u,v⟩ none A none B 0 c 0 d V ⟨(Reads.none_ _ _ _ _),(Reads.none_ _ _ _ _),⟨by simp,by simp⟩⟩ (L.out.below m.out.below));dsimp only[D8,Dz,List.length_nil]at P
  cases H:decide ((⟨a,prev,b,kind,0,0,0,⟨0,0,⟨#[]⟩,⟨#[]⟩⟩,0,0,⟨⟨#[]⟩,0,0⟩,[],[]⟩:Rc.Rec)=⟨a,prev,b,kind,Ae,next,q,⟨ok,os,s,on⟩,j,root,⟨t,r,es⟩,u,v⟩)with
  |false=>
   have D:=Hq H;clear H
   go_wp2_with(first|with_reducible refine lL m.out.bx Bz ?_|with_reducible refine lL m.out.br Bz ?_|(go_at_call 281;(with_reducible refine P.out.mono ?_);rintro e w9 ⟨rfl,x⟩;rw[D.out]))
   go_ret;refine⟨?_,Af m.out.below x⟩;rw[K.out.trans (Rc.C7 fun h=>of_decide_eq_false D.out (E.out.1 h).2)]
   rfl
  |true=>
   have D:=Hq H;clear H
   go_wp2_with(first|with_reducible refine lL m.out.bx Bz ?_|with_reducible refine lL m.out.br Bz ?_|(go_at_call 281;(with_reducible refine P.out.mono ?_);rintro e w9 ⟨rfl,x⟩;rw[D.out]))
   go_ret;refine⟨?_,Af m.out.below x⟩;rw[K.out.trans (Rc.Fy (E.out.2 ⟨Z.out,of_decide_eq_true D.out⟩))]
   rfl
theorem jR (kind:Int)(hk:¬ (1≤kind∧kind≤9))(h prev i Ae next l ok os j root m es:Int)(n on o:ByteArray)(T D:Value)(w:World):
 Cr 258 #[.agg (Cs h prev i kind Ae next l ok os n on j root o m es (T) (D))] w (.bool false):=by
 have f:=Hq (fun W=>Ho kind W);have g:∃ a b c d,Zr kind= .tuple #[Gz a b c d false,false]:=by
  unfold Zr;rw[decide_eq_false hk];exact⟨_,_,_,_,rfl⟩
 obtain⟨p,q,r,fd,g⟩:=g;rw[g]at f;clear g hk;go_enter Tryz.func258,Tryz.ntmps258
 go_wp2_with((go_at_call 272;(with_reducible refine(f.out _).mono ?_);rintro e s ⟨rfl,k⟩))
 go_ret;exact⟨rfl,Aj (Af (Ac _ _) k)⟩
theorem dE (x:Rc.Rec)(A B:Option Addr)(c d:Nat)(w:World)(k:Ii w x A c B d):
 Cr 258 #[D8 x (.slice A x.txns.length c) (.slice B x.dirty.length d)] w (.bool (Rc.Dw x)):=by
 obtain⟨a,prev,b,kind,Ae,next,f,⟨ok,os,g,on⟩,e,root,⟨i,j,es⟩,l,m⟩:=x
 by_cases h:1≤kind∧kind≤9
 ·have h9:kind=2∨kind=3∨kind=4∨kind=8∨kind=9∨kind=1∨kind=5∨kind=6∨kind=7:=by omega
  rcases h9 with rfl|rfl|rfl|rfl|rfl|h9
  ·exact Xe a prev b Ae next f ok os e root j es g on i l m A B c d w k
  ·exact jQ a prev b Ae next f ok os e root j es g on i l m A B c d w k
  ·exact dC a prev b Ae next f ok os e root j es g on i l m A B c d w k
  ·exact Z8 a prev b Ae next f ok os e root j es g on i l m A B c d w k
  ·exact Z9 a prev b Ae next f ok os e root j es g on i l m A B c d w k
  ·exact dD kind h9 a prev b Ae next f ok os e root j es g on i l m A B c d w k
 ·rw[Rc.C7 (Rc.dB h)]
  exact jR kind h a prev b Ae next f ok os e root j es g on i _ _ w
end Go.Proofs.YtpogpkonojhakaaGreatDoor
