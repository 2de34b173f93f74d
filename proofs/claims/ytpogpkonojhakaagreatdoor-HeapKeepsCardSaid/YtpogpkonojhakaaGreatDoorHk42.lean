import Derived.Test.YtpogpkonojhakaaGreatDoorHk00
import Derived.Test.YtpogpkonojhakaaGreatDoorHk04
import Derived.Test.YtpogpkonojhakaaGreatDoorHk05
import Derived.BigRegion
set_option maxRecDepth 100000
set_option maxHeartbeats 16000000
set_option linter.unusedSimpArgs false
namespace Go.Proofs.YtpogpkonojhakaaGreatDoor
open Go.RowKit
theorem jQ (a prev b Ae next m ok os f root n es:Int)(i on o:ByteArray)(p:List Rc.Bc)(q:List Rc.Bv)(A B:Option Addr)(c d:Nat)(w:World)(hr:Ii w ⟨a,prev,b,3,Ae,next,m,⟨ok,os,i,on⟩,f,root,⟨o,n,es⟩,p,q⟩ A c B d):
 Cr 258 #[.agg (Cs a prev b 3 Ae next m ok os i on f root o n es (.slice A p.length c) (.slice B q.length d))] w (.bool (Rc.Dw ⟨a,prev,b,3,Ae,next,m,⟨ok,os,i,on⟩,f,root,⟨o,n,es⟩,p,q⟩)):=by
 have y:=Hq (fun W=>Ho 3 W);rw[show Zr 3= .tuple #[Gz true false true false true,true]from rfl]at y;have r:=Hq (fun W g h=>Le a prev b W g h);obtain⟨Q,hQ⟩:=ex (Rc.Dw ⟨a,prev,b,3,Ae,next,m,⟨ok,os,i,on⟩,f,root,⟨o,n,es⟩,p,q⟩);rw[← hQ];have HQ:=Hq hQ;have z:=hr.small;simp only at z;have ag:=z.1;have ah:=z.2;have a7:=Hq hr;clear hQ hr z;have N:=Hq (Rc.sL a prev b Ae next m f root ⟨ok,os,i,on⟩ ⟨o,n,es⟩ p q)
 cases M:decide (Rc.num a∧Rc.num prev∧Rc.num b)with
 |false=>
  rw[M]at r;have HF:=Hq (HQ.out.trans (Rc.C7 fun h=>of_decide_eq_false M (N.out.1 h).1));clear M N;go_enter Tryz.func258,Tryz.ntmps258
  go_wp2_with(first
   |(go_at_call 272;(with_reducible refine(y.out _).mono ?_);rintro e C ⟨rfl,j⟩;have t:=Aa (Bs j);have a8:w.heap.size<C.heap.size:=(by have:=j.size;simp at this;omega);have l:=Hq j;clear j)
   |(go_at_call 273;(with_reducible refine(r.out _ _ ?_).mono ?_);(with_reducible exact Fc _ _ _);rintro e x ⟨rfl,k⟩;have O:=Aa (Ag (Bs l.out) (Af (Aj (Ac _ _)) k));have aa:C.heap.size+1<x.heap.size:=(by have:=k.size;simp at this;omega);have D:=Hq k;clear k)
   |with_reducible refine sN (Cs a prev b 3 0 0 0 0 0 ⟨#[]⟩ ⟨#[]⟩ 0 0 ⟨#[]⟩ 0 0 (.slice none 0 0) (.slice none 0 0)) ?_)
  go_ret;exact⟨by rw[HF.out];rfl,Af (Af (Ac _ _) l.out) (Af (Aj (Ac _ _)) D.out)⟩
 |true=>
  rw[M]at r;have HN:=Hq (of_decide_eq_true M);clear M;go_enter Tryz.func258,Tryz.ntmps258
  go_upto_region 5 with(first
   |(go_at_call 272;(with_reducible refine(y.out _).mono ?_);rintro e C ⟨rfl,j⟩;have t:=Aa (Bs j);have a8:w.heap.size<C.heap.size:=(by have:=j.size;simp at this;omega);have l:=Hq j;clear j)
   |(go_at_call 273;(with_reducible refine(r.out _ _ ?_).mono ?_);(with_reducible exact Fc _ _ _);rintro e x ⟨rfl,k⟩;have O:=Aa (Ag (Bs l.out) (Af (Aj (Ac _ _)) k));have aa:C.heap.size+1<x.heap.size:=(by have:=k.size;simp at this;omega);have D:=Hq k;clear k)
   |with_reducible refine sN (Cs a prev b 3 0 0 0 0 0 ⟨#[]⟩ ⟨#[]⟩ 0 0 ⟨#[]⟩ 0 0 (.slice none 0 0) (.slice none 0 0)) ?_)
  have H:=Hq (I6 (R:=(Cs a prev b 3 Ae next m ok os i on f root o n es (.slice A p.length c) (.slice B q.length d))) (F:=#[true,false,true,false,true]) (X:=(Cs a prev b 3 0 0 0 0 0 ⟨#[]⟩ ⟨#[]⟩ 0 0 ⟨#[]⟩ 0 0 (.slice none 0 0) (.slice none 0 0))) l.out D.out);clear t O r y l D;obtain⟨V,hV⟩:=ex (x.alloc (.cells (Cs a prev b 3 0 0 0 0 0 ⟨#[]⟩ ⟨#[]⟩ 0 0 ⟨#[]⟩ 0 0 (.slice none 0 0) (.slice none 0 0)) 105));rw[← hV]at H ⊢;clear hV;have t:=Aa H.out.br;have G:=Aa H.out.bf
  go_upto_region 6 with(fail)
  go_cut [4] (fun s P=>s= .bool (decide (Rc.pg Ae)&&decide (Rc.Iz ⟨ok,os,i,on⟩))∧E9 w w.heap.size C.heap.size x.heap.size (Cs a prev b 3 Ae next m ok os i on f root o n es (.slice A p.length c) (.slice B q.length d)) #[true,false,true,false,true] (Cs a prev b 3 0 0 0 0 0 ⟨#[]⟩ ⟨#[]⟩ 0 0 ⟨#[]⟩ 0 0 (.slice none 0 0) (.slice none 0 0)) P)
  case first=>
   cases hp:decide (Rc.pg Ae)with
   |false=>
    have S:=Hq hp;clear hp
    go_wp2_with(first|(go_at_call 274;(with_reducible refine(Ob Ae _ _ ?_).mono ?_);(with_reducible exact heap_alloc_new _ _);rintro e w3 ⟨rfl,E⟩;rw[S.out]))
    go_meet
    case rel=>exact⟨by simp[S.out],H.out.step (Af (Ac _ _) E)⟩
   |true=>
    have S:=Hq hp;clear hp;generalize T:decide (Rc.Iz ⟨ok,os,i,on⟩)=qo;have HO:=Hq T;clear T
    go_wp2_with(first|(go_at_call 274;(with_reducible refine(Ob Ae _ _ ?_).mono ?_);(with_reducible exact heap_alloc_new _ _);rintro e w3 ⟨rfl,E⟩;rw[S.out];have ai:=Aa (H.out.step (Af (Ac _ _) E)).br)|(go_at_call 275;(with_reducible refine(dA ⟨ok,os,i,on⟩ _).mono ?_);rintro e w4 ⟨rfl,ad⟩;rw[HO.out]))
    go_meet
    case rel=>exact⟨by simp[S.out,HO.out],(H.out.step (Af (Ac _ _) E)).step ad⟩
  case rest=>
  obtain⟨W1,rfl⟩:=ex wc;obtain⟨rfl,U⟩:=hcut;have H1:=Hq U;clear t G U H;have t:=Aa H1.out.br;have G:=Aa H1.out.bf;have I:=Aa H1.out.bx;have J:=Ap H1.out.bx;have ae:w.heap.size≠x.heap.size:=by have:=H1.out.ab;omega
  go_upto_region 7 with(fail)
  go_cut [] (fun P=>E9 w w.heap.size C.heap.size x.heap.size (Cs a prev b 3 Ae next m ok os i on f root o n es (.slice A p.length c) (.slice B q.length d)) #[true,false,true,false,true] (Cs a prev b 3 Ae 0 0 ok os i on 0 0 ⟨#[]⟩ 0 0 (.slice none 0 0) (.slice none 0 0)) P)
  case first=>
   go_region
   all_goals
    go_wp2_with fail;go_meet
    case rel=>
     first
      |(have h:=(((((H1.out.set 4 (.int .i64 Ae)).set 7 (.int .i64 ok)).set 8 (.int .i64 os)).set 9 (.string i)).set 10 (.string on)).drew;simpa using h)
      |(have h:=(((((H1.out.set 7 (.int .i64 ok)).set 8 (.int .i64 os)).set 9 (.string i)).set 10 (.string on)).set 4 (.int .i64 Ae)).drew;simpa using h)
  case rest=>
  obtain⟨W2,rfl⟩:=ex wc;have Y:=Hq hcut;clear t G I J hcut H1;have t:=Aa Y.out.br;have G:=Aa Y.out.bf
  go_upto_region 12 with(fail)
  go_cut [4] (fun s P=>s= .bool ((decide (Rc.pg Ae)&&decide (Rc.Iz ⟨ok,os,i,on⟩))&&decide (Rc.num next))∧E9 w w.heap.size C.heap.size x.heap.size (Cs a prev b 3 Ae next m ok os i on f root o n es (.slice A p.length c) (.slice B q.length d)) #[true,false,true,false,true] (Cs a prev b 3 Ae 0 0 ok os i on 0 0 ⟨#[]⟩ 0 0 (.slice none 0 0) (.slice none 0 0)) P)
  case first=>
   generalize u:(decide (Rc.pg Ae)&&decide (Rc.Iz ⟨ok,os,i,on⟩))=qa;have Z:=Hq u;clear u
   cases qa with
   |false=>
    go_wp2_with fail;go_meet
    case rel=>exact⟨by simp[Z.out],Y.out⟩
   |true=>
    generalize a1:decide (Rc.num next)=qt;have HT:=Hq a1;clear a1
    go_wp2_with(first|(go_at_call 273;(with_reducible refine(Ld next _ _ ?_).mono ?_);(with_reducible exact heap_alloc_new _ _);rintro e w5 ⟨rfl,af⟩;rw[HT.out]))
    go_meet
    case rel=>exact⟨by simp[Z.out,HT.out],Y.out.step (Af (Ac _ _) af)⟩
  case rest=>
  obtain⟨W3,rfl⟩:=ex wc;obtain⟨rfl,a6⟩:=hcut;have K:=Hq a6;clear t G a6 Y;have t:=Aa K.out.br;have G:=Aa K.out.bf;have I:=Aa K.out.bx;have J:=Ap K.out.bx;have ae:w.heap.size≠x.heap.size:=by have:=K.out.ab;omega
  go_upto_region 14 with(fail)
  have h:=K.out.set 5 (.int .i64 next);have v:Hid (E9 w w.heap.size C.heap.size x.heap.size (Cs a prev b 3 Ae next m ok os i on f root o n es (.slice A p.length c) (.slice B q.length d)) #[true,false,true,false,true] (Cs a prev b 3 Ae next 0 ok os i on 0 0 ⟨#[]⟩ 0 0 (.slice none 0 0) (.slice none 0 0)) _):=Hq (by simpa using h);clear h t G I J K;generalize World.setCell _ _ _=W4 at v ⊢;have t:=Aa v.out.br;have G:=Aa v.out.bf
  go_upto_region 19 with(fail)
  generalize u:((decide (Rc.pg Ae)&&decide (Rc.Iz ⟨ok,os,i,on⟩))&&decide (Rc.num next))=qa;have Z:=Hq u;clear u
  cases qa with
  |false=>
   go_wp2_with fail;go_ret;refine⟨?_,v.out.below⟩;have HF:=HQ.out.trans (Rc.C7 fun h=>by
    have h2:=(N.out.1 h).2.1;have h3:=Z.out;simp only[Bool.and_eq_false_iff,decide_eq_false_iff_not]at h3
    grind)
   rw[HF]
   rfl
  |true=>
   have HS:=Hq (Kq ⟨a,prev,b,3,Ae,next,0,⟨ok,os,i,on⟩,0,0,⟨⟨#[]⟩,0,0⟩,[],[]⟩ ⟨a,prev,b,3,Ae,next,m,⟨ok,os,i,on⟩,f,root,⟨o,n,es⟩,p,q⟩ none A none B 0 c 0 d W4 ⟨(Reads.none_ _ _ _ _),(Reads.none_ _ _ _ _),⟨by simp,by simp⟩⟩ (a7.out.below v.out.below));dsimp only[D8,Dz,List.length_nil]at HS
   cases he:decide ((⟨a,prev,b,3,Ae,next,0,⟨ok,os,i,on⟩,0,0,⟨⟨#[]⟩,0,0⟩,[],[]⟩:Rc.Rec)=⟨a,prev,b,3,Ae,next,m,⟨ok,os,i,on⟩,f,root,⟨o,n,es⟩,p,q⟩)with
   |false=>
    have HE:=Hq he;clear he
    go_wp2_with(first|with_reducible refine lL v.out.bx Bz ?_|with_reducible refine lL v.out.br Bz ?_|(go_at_call 281;(with_reducible refine HS.out.mono ?_);rintro e w9 ⟨rfl,L⟩;rw[HE.out]))
    go_ret;refine⟨?_,Af v.out.below L⟩;rw[HQ.out.trans (Rc.C7 fun h=>of_decide_eq_false HE.out (N.out.1 h).2.2)]
    rfl
   |true=>
    have HE:=Hq he;clear he
    go_wp2_with(first|with_reducible refine lL v.out.bx Bz ?_|with_reducible refine lL v.out.br Bz ?_|(go_at_call 281;(with_reducible refine HS.out.mono ?_);rintro e w9 ⟨rfl,L⟩;rw[HE.out]))
    go_ret;refine⟨?_,Af v.out.below L⟩;rw[HQ.out.trans (Rc.Fy (N.out.2 ⟨HN.out,by have h3:=Z.out;simpa only[Bool.and_eq_true,decide_eq_true_eq]using h3,of_decide_eq_true HE.out⟩))]
    rfl
end Go.Proofs.YtpogpkonojhakaaGreatDoor
