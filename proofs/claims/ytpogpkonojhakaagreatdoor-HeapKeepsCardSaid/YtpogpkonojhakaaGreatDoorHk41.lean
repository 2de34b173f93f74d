import Derived.Test.YtpogpkonojhakaaGreatDoorHk00
import Derived.Test.YtpogpkonojhakaaGreatDoorHk04
import Derived.Test.YtpogpkonojhakaaGreatDoorHk05
import Derived.BigRegion
set_option maxRecDepth 100000
set_option maxHeartbeats 16000000
set_option linter.unusedSimpArgs false
namespace Go.Proofs.YtpogpkonojhakaaGreatDoor
open Go.RowKit
theorem Xe (a prev b Ae next p ok os f root j es:Int)(i on k:ByteArray)(n:List Rc.Bc)(o:List Rc.Bv)(A B:Option Addr)(c d:Nat)(w:World)(hr:Ii w ⟨a,prev,b,2,Ae,next,p,⟨ok,os,i,on⟩,f,root,⟨k,j,es⟩,n,o⟩ A c B d):
 Cr 258 #[.agg (Cs a prev b 2 Ae next p ok os i on f root k j es (.slice A n.length c) (.slice B o.length d))] w (.bool (Rc.Dw ⟨a,prev,b,2,Ae,next,p,⟨ok,os,i,on⟩,f,root,⟨k,j,es⟩,n,o⟩)):=by
 have z:=Hq (fun W=>Ho 2 W);rw[show Zr 2= .tuple #[Gz true true false false true,true]from rfl]at z;have t:=Hq (fun W g h=>Le a prev b W g h);obtain⟨Q,hQ⟩:=ex (Rc.Dw ⟨a,prev,b,2,Ae,next,p,⟨ok,os,i,on⟩,f,root,⟨k,j,es⟩,n,o⟩);rw[← hQ];have HQ:=Hq hQ;have C:=hr.small;simp only at C;have ag:=C.1;have ah:=C.2;have a7:=Hq hr;clear hQ hr C;have P:=Hq (Rc.sK a prev b Ae next p f root ⟨ok,os,i,on⟩ ⟨k,j,es⟩ n o)
 cases N:decide (Rc.num a∧Rc.num prev∧Rc.num b)with
 |false=>
  rw[N]at t;have HF:=Hq (HQ.out.trans (Rc.C7 fun h=>of_decide_eq_false N (P.out.1 h).1));clear N P;go_enter Tryz.func258,Tryz.ntmps258
  go_wp2_with(first
   |(go_at_call 272;(with_reducible refine(z.out _).mono ?_);rintro e D ⟨rfl,l⟩;have u:=Aa (Bs l);have a8:w.heap.size<D.heap.size:=(by have:=l.size;simp at this;omega);have q:=Hq l;clear l)
   |(go_at_call 273;(with_reducible refine(t.out _ _ ?_).mono ?_);(with_reducible exact Fc _ _ _);rintro e x ⟨rfl,m⟩;have S:=Aa (Ag (Bs q.out) (Af (Aj (Ac _ _)) m));have aa:D.heap.size+1<x.heap.size:=(by have:=m.size;simp at this;omega);have E:=Hq m;clear m)
   |with_reducible refine sN (Cs a prev b 2 0 0 0 0 0 ⟨#[]⟩ ⟨#[]⟩ 0 0 ⟨#[]⟩ 0 0 (.slice none 0 0) (.slice none 0 0)) ?_)
  go_ret;exact⟨by rw[HF.out];rfl,Af (Af (Ac _ _) q.out) (Af (Aj (Ac _ _)) E.out)⟩
 |true=>
  rw[N]at t;have HN:=Hq (of_decide_eq_true N);clear N;go_enter Tryz.func258,Tryz.ntmps258
  go_upto_region 5 with(first
   |(go_at_call 272;(with_reducible refine(z.out _).mono ?_);rintro e D ⟨rfl,l⟩;have u:=Aa (Bs l);have a8:w.heap.size<D.heap.size:=(by have:=l.size;simp at this;omega);have q:=Hq l;clear l)
   |(go_at_call 273;(with_reducible refine(t.out _ _ ?_).mono ?_);(with_reducible exact Fc _ _ _);rintro e x ⟨rfl,m⟩;have S:=Aa (Ag (Bs q.out) (Af (Aj (Ac _ _)) m));have aa:D.heap.size+1<x.heap.size:=(by have:=m.size;simp at this;omega);have E:=Hq m;clear m)
   |with_reducible refine sN (Cs a prev b 2 0 0 0 0 0 ⟨#[]⟩ ⟨#[]⟩ 0 0 ⟨#[]⟩ 0 0 (.slice none 0 0) (.slice none 0 0)) ?_)
  have I:=Hq (I6 (R:=(Cs a prev b 2 Ae next p ok os i on f root k j es (.slice A n.length c) (.slice B o.length d))) (F:=#[true,true,false,false,true]) (X:=(Cs a prev b 2 0 0 0 0 0 ⟨#[]⟩ ⟨#[]⟩ 0 0 ⟨#[]⟩ 0 0 (.slice none 0 0) (.slice none 0 0))) q.out E.out);clear u S t z q E;obtain⟨V,hV⟩:=ex (x.alloc (.cells (Cs a prev b 2 0 0 0 0 0 ⟨#[]⟩ ⟨#[]⟩ 0 0 ⟨#[]⟩ 0 0 (.slice none 0 0) (.slice none 0 0)) 105));rw[← hV]at I ⊢;clear hV;have u:=Aa I.out.br;have H:=Aa I.out.bf
  go_upto_region 6 with(fail)
  go_cut [4] (fun s J=>s= .bool (decide (Rc.pg Ae)&&decide (Rc.Iz ⟨ok,os,i,on⟩))∧E9 w w.heap.size D.heap.size x.heap.size (Cs a prev b 2 Ae next p ok os i on f root k j es (.slice A n.length c) (.slice B o.length d)) #[true,true,false,false,true] (Cs a prev b 2 0 0 0 0 0 ⟨#[]⟩ ⟨#[]⟩ 0 0 ⟨#[]⟩ 0 0 (.slice none 0 0) (.slice none 0 0)) J)
  case first=>
   cases hp:decide (Rc.pg Ae)with
   |false=>
    have T:=Hq hp;clear hp
    go_wp2_with(first|(go_at_call 274;(with_reducible refine(Ob Ae _ _ ?_).mono ?_);(with_reducible exact heap_alloc_new _ _);rintro e w3 ⟨rfl,G⟩;rw[T.out]))
    go_meet
    case rel=>exact⟨by simp[T.out],I.out.step (Af (Ac _ _) G)⟩
   |true=>
    have T:=Hq hp;clear hp;generalize U:decide (Rc.Iz ⟨ok,os,i,on⟩)=qo;have HO:=Hq U;clear U
    go_wp2_with(first|(go_at_call 274;(with_reducible refine(Ob Ae _ _ ?_).mono ?_);(with_reducible exact heap_alloc_new _ _);rintro e w3 ⟨rfl,G⟩;rw[T.out];have ai:=Aa (I.out.step (Af (Ac _ _) G)).br)|(go_at_call 275;(with_reducible refine(dA ⟨ok,os,i,on⟩ _).mono ?_);rintro e w4 ⟨rfl,ad⟩;rw[HO.out]))
    go_meet
    case rel=>exact⟨by simp[T.out,HO.out],(I.out.step (Af (Ac _ _) G)).step ad⟩
  case rest=>
  obtain⟨W1,rfl⟩:=ex wc;obtain⟨rfl,Y⟩:=hcut;have H1:=Hq Y;clear u H Y I;have u:=Aa H1.out.br;have H:=Aa H1.out.bf;have K:=Aa H1.out.bx;have L:=Ap H1.out.bx;have ae:w.heap.size≠x.heap.size:=by have:=H1.out.ab;omega
  go_upto_region 7 with(fail)
  go_cut [] (fun J=>E9 w w.heap.size D.heap.size x.heap.size (Cs a prev b 2 Ae next p ok os i on f root k j es (.slice A n.length c) (.slice B o.length d)) #[true,true,false,false,true] (Cs a prev b 2 Ae 0 0 ok os i on 0 0 ⟨#[]⟩ 0 0 (.slice none 0 0) (.slice none 0 0)) J)
  case first=>
   go_region
   all_goals
    go_wp2_with fail;go_meet
    case rel=>
     first
      |(have h:=(((((H1.out.set 4 (.int .i64 Ae)).set 7 (.int .i64 ok)).set 8 (.int .i64 os)).set 9 (.string i)).set 10 (.string on)).drew;simpa using h)
      |(have h:=(((((H1.out.set 7 (.int .i64 ok)).set 8 (.int .i64 os)).set 9 (.string i)).set 10 (.string on)).set 4 (.int .i64 Ae)).drew;simpa using h)
  case rest=>
  obtain⟨W2,rfl⟩:=ex wc;have O:=Hq hcut;clear u H K L hcut H1;have u:=Aa O.out.br;have H:=Aa O.out.bf
  go_upto_region 9 with(fail)
  go_cut [4] (fun s J=>s= .bool ((decide (Rc.pg Ae)&&decide (Rc.Iz ⟨ok,os,i,on⟩))&&decide (Rc.Fq ⟨a,prev,b,2,Ae,next,p,⟨ok,os,i,on⟩,f,root,⟨k,j,es⟩,n,o⟩))∧E9 w w.heap.size D.heap.size x.heap.size (Cs a prev b 2 Ae next p ok os i on f root k j es (.slice A n.length c) (.slice B o.length d)) #[true,true,false,false,true] (Cs a prev b 2 Ae 0 0 ok os i on 0 0 ⟨#[]⟩ 0 0 (.slice none 0 0) (.slice none 0 0)) J)
  case first=>
   generalize v:(decide (Rc.pg Ae)&&decide (Rc.Iz ⟨ok,os,i,on⟩))=qa;have Z:=Hq v;clear v
   cases qa with
   |false=>
    go_wp2_with fail;go_meet
    case rel=>exact⟨by simp[Z.out],O.out⟩
   |true=>
    generalize a1:decide (Rc.Fq ⟨a,prev,b,2,Ae,next,p,⟨ok,os,i,on⟩,f,root,⟨k,j,es⟩,n,o⟩)=qt;have HT:=Hq a1;clear a1
    go_wp2_with(first|with_reducible refine lL O.out.br Bz ?_|(go_at_call 276;(with_reducible refine(oY ⟨a,prev,b,2,Ae,next,p,⟨ok,os,i,on⟩,f,root,⟨k,j,es⟩,n,o⟩ (.slice A n.length c) (.slice B o.length d) _).mono ?_);rintro e w5 ⟨rfl,af⟩;rw[HT.out]))
    go_meet
    case rel=>exact⟨by simp[Z.out,HT.out],O.out.step af⟩
  case rest=>
  obtain⟨W3,rfl⟩:=ex wc;obtain⟨rfl,a6⟩:=hcut;have r:=Hq a6;clear u H a6 O;have u:=Aa r.out.br;have H:=Aa r.out.bf;have K:=Aa r.out.bx;have L:=Ap r.out.bx;have ae:w.heap.size≠x.heap.size:=by have:=r.out.ab;omega
  go_upto_region 10 with(fail)
  go_cut [] (fun J=>E9 w w.heap.size D.heap.size x.heap.size (Cs a prev b 2 Ae next p ok os i on f root k j es (.slice A n.length c) (.slice B o.length d)) #[true,true,false,false,true] (Cs a prev b 2 Ae 0 0 ok os i on f root k j es (.slice none 0 0) (.slice none 0 0)) J)
  case first=>
   go_region
   all_goals
    go_wp2_with fail;go_meet
    case rel=>
     first
      |(have h:=(((((r.out.set 11 (.int .i64 f)).set 12 (.int .i64 root)).set 13 (.string k)).set 14 (.int .i64 j)).set 15 (.int .i64 es)).drew;simpa using h)
      |(have h:=(((((r.out.set 11 (.int .i64 f)).set 13 (.string k)).set 14 (.int .i64 j)).set 15 (.int .i64 es)).set 12 (.int .i64 root)).drew;simpa using h)
      |(have h:=(((((r.out.set 12 (.int .i64 root)).set 11 (.int .i64 f)).set 13 (.string k)).set 14 (.int .i64 j)).set 15 (.int .i64 es)).drew;simpa using h)
      |(have h:=(((((r.out.set 12 (.int .i64 root)).set 13 (.string k)).set 14 (.int .i64 j)).set 15 (.int .i64 es)).set 11 (.int .i64 f)).drew;simpa using h)
      |(have h:=(((((r.out.set 13 (.string k)).set 14 (.int .i64 j)).set 15 (.int .i64 es)).set 11 (.int .i64 f)).set 12 (.int .i64 root)).drew;simpa using h)
      |(have h:=(((((r.out.set 13 (.string k)).set 14 (.int .i64 j)).set 15 (.int .i64 es)).set 12 (.int .i64 root)).set 11 (.int .i64 f)).drew;simpa using h)
  case rest=>
  obtain⟨W4,rfl⟩:=ex wc;have y:=Hq hcut;clear u H K L hcut r;have u:=Aa y.out.br;have H:=Aa y.out.bf
  go_upto_region 19 with(fail)
  generalize v:((decide (Rc.pg Ae)&&decide (Rc.Iz ⟨ok,os,i,on⟩))&&decide (Rc.Fq ⟨a,prev,b,2,Ae,next,p,⟨ok,os,i,on⟩,f,root,⟨k,j,es⟩,n,o⟩))=qa;have Z:=Hq v;clear v
  cases qa with
  |false=>
   go_wp2_with fail;go_ret;refine⟨?_,y.out.below⟩;have HF:=HQ.out.trans (Rc.C7 fun h=>by
    have h2:=(P.out.1 h).2.1;have h3:=Z.out;simp only[Bool.and_eq_false_iff,decide_eq_false_iff_not]at h3
    grind)
   rw[HF]
   rfl
  |true=>
   have HS:=Hq (Kq ⟨a,prev,b,2,Ae,0,0,⟨ok,os,i,on⟩,f,root,⟨k,j,es⟩,[],[]⟩ ⟨a,prev,b,2,Ae,next,p,⟨ok,os,i,on⟩,f,root,⟨k,j,es⟩,n,o⟩ none A none B 0 c 0 d W4 ⟨(Reads.none_ _ _ _ _),(Reads.none_ _ _ _ _),⟨by simp,by simp⟩⟩ (a7.out.below y.out.below));dsimp only[D8,Dz,List.length_nil]at HS
   cases he:decide ((⟨a,prev,b,2,Ae,0,0,⟨ok,os,i,on⟩,f,root,⟨k,j,es⟩,[],[]⟩:Rc.Rec)=⟨a,prev,b,2,Ae,next,p,⟨ok,os,i,on⟩,f,root,⟨k,j,es⟩,n,o⟩)with
   |false=>
    have HE:=Hq he;clear he
    go_wp2_with(first|with_reducible refine lL y.out.bx Bz ?_|with_reducible refine lL y.out.br Bz ?_|(go_at_call 281;(with_reducible refine HS.out.mono ?_);rintro e w9 ⟨rfl,M⟩;rw[HE.out]))
    go_ret;refine⟨?_,Af y.out.below M⟩;rw[HQ.out.trans (Rc.C7 fun h=>of_decide_eq_false HE.out (P.out.1 h).2.2)]
    rfl
   |true=>
    have HE:=Hq he;clear he
    go_wp2_with(first|with_reducible refine lL y.out.bx Bz ?_|with_reducible refine lL y.out.br Bz ?_|(go_at_call 281;(with_reducible refine HS.out.mono ?_);rintro e w9 ⟨rfl,M⟩;rw[HE.out]))
    go_ret;refine⟨?_,Af y.out.below M⟩;rw[HQ.out.trans (Rc.Fy (P.out.2 ⟨HN.out,by have h3:=Z.out;simpa only[Bool.and_eq_true,decide_eq_true_eq]using h3,of_decide_eq_true HE.out⟩))]
    rfl
end Go.Proofs.YtpogpkonojhakaaGreatDoor
