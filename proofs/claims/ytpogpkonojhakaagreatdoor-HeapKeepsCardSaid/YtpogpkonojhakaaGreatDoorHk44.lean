import Derived.Test.YtpogpkonojhakaaGreatDoorHk00
import Derived.Test.YtpogpkonojhakaaGreatDoorHk04
import Derived.Test.YtpogpkonojhakaaGreatDoorHk05
import Derived.BigRegion
set_option maxRecDepth 100000
set_option maxHeartbeats 16000000
set_option linter.unusedSimpArgs false
namespace Go.Proofs.YtpogpkonojhakaaGreatDoor
open Go.RowKit
theorem Z9 (a prev b Ae next j ok os l root u es:Int)(v on x:ByteArray)(f:List Rc.Bc)(i:List Rc.Bv)(A B:Option Addr)(c d:Nat)(w:World)(hr:Ii w ⟨a,prev,b,9,Ae,next,j,⟨ok,os,v,on⟩,l,root,⟨x,u,es⟩,f,i⟩ A c B d):
 Cr 258 #[.agg (Cs a prev b 9 Ae next j ok os v on l root x u es (.slice A f.length c) (.slice B i.length d))] w (.bool (Rc.Dw ⟨a,prev,b,9,Ae,next,j,⟨ok,os,v,on⟩,l,root,⟨x,u,es⟩,f,i⟩)):=by
 have I:=Hq (fun W=>Ho 9 W);rw[show Zr 9= .tuple #[Gz false false false true true,true]from rfl]at I;have D:=Hq (fun W g h=>Le a prev b W g h);obtain⟨Q,hQ⟩:=ex (Rc.Dw ⟨a,prev,b,9,Ae,next,j,⟨ok,os,v,on⟩,l,root,⟨x,u,es⟩,f,i⟩);rw[← hQ];have HQ:=Hq hQ;have J:=hr.small;simp only at J;have a1:=J.1;have a6:=J.2;have E:=Hq hr;clear hQ hr J;have RI:=Hq (Rc.sP a prev b Ae next j l root ⟨ok,os,v,on⟩ ⟨x,u,es⟩ f i)
 cases Y:decide (Rc.num a∧Rc.num prev∧Rc.num b)with
 |false=>
  rw[Y]at D;have HF:=Hq (HQ.out.trans (Rc.C7 fun h=>of_decide_eq_false Y (RI.out.1 h).1));clear Y RI;go_enter Tryz.func258,Tryz.ntmps258
  go_wp2_with(first
   |(go_at_call 272;(with_reducible refine(I.out _).mono ?_);rintro e K ⟨rfl,n⟩;have G:=Aa (Bs n);have ae:w.heap.size<K.heap.size:=(by have:=n.size;simp at this;omega);have q:=Hq n;clear n)
   |(go_at_call 273;(with_reducible refine(D.out _ _ ?_).mono ?_);(with_reducible exact Fc _ _ _);rintro e L ⟨rfl,o⟩;have a7:=Aa (Ag (Bs q.out) (Af (Aj (Ac _ _)) o));have af:K.heap.size+1<L.heap.size:=(by have:=o.size;simp at this;omega);have M:=Hq o;clear o)
   |with_reducible refine sN (Cs a prev b 9 0 0 0 0 0 ⟨#[]⟩ ⟨#[]⟩ 0 0 ⟨#[]⟩ 0 0 (.slice none 0 0) (.slice none 0 0)) ?_)
  go_ret;exact⟨by rw[HF.out];rfl,Af (Af (Ac _ _) q.out) (Af (Aj (Ac _ _)) M.out)⟩
 |true=>
  rw[Y]at D;have HN:=Hq (of_decide_eq_true Y);clear Y;go_enter Tryz.func258,Tryz.ntmps258
  go_upto_region 5 with(first
   |(go_at_call 272;(with_reducible refine(I.out _).mono ?_);rintro e K ⟨rfl,n⟩;have G:=Aa (Bs n);have ae:w.heap.size<K.heap.size:=(by have:=n.size;simp at this;omega);have q:=Hq n;clear n)
   |(go_at_call 273;(with_reducible refine(D.out _ _ ?_).mono ?_);(with_reducible exact Fc _ _ _);rintro e L ⟨rfl,o⟩;have a7:=Aa (Ag (Bs q.out) (Af (Aj (Ac _ _)) o));have af:K.heap.size+1<L.heap.size:=(by have:=o.size;simp at this;omega);have M:=Hq o;clear o)
   |with_reducible refine sN (Cs a prev b 9 0 0 0 0 0 ⟨#[]⟩ ⟨#[]⟩ 0 0 ⟨#[]⟩ 0 0 (.slice none 0 0) (.slice none 0 0)) ?_)
  have y:=Hq (I6 (R:=(Cs a prev b 9 Ae next j ok os v on l root x u es (.slice A f.length c) (.slice B i.length d))) (F:=#[false,false,false,true,true]) (X:=(Cs a prev b 9 0 0 0 0 0 ⟨#[]⟩ ⟨#[]⟩ 0 0 ⟨#[]⟩ 0 0 (.slice none 0 0) (.slice none 0 0))) q.out M.out);clear G a7 D I q M;obtain⟨V,hV⟩:=ex (L.alloc (.cells (Cs a prev b 9 0 0 0 0 0 ⟨#[]⟩ ⟨#[]⟩ 0 0 ⟨#[]⟩ 0 0 (.slice none 0 0) (.slice none 0 0)) 105));rw[← hV]at y ⊢;clear hV;have G:=Aa y.out.br;have O:=Aa y.out.bf
  go_upto_region 15 with(fail)
  go_cut [4] (fun s P=>s= .bool (decide (Rc.num j)&&(decide (f.length≤1000)&&decide (i.length≤2000)))∧E9 w w.heap.size K.heap.size L.heap.size (Cs a prev b 9 Ae next j ok os v on l root x u es (.slice A f.length c) (.slice B i.length d)) #[false,false,false,true,true] (Cs a prev b 9 0 0 0 0 0 ⟨#[]⟩ ⟨#[]⟩ 0 0 ⟨#[]⟩ 0 0 (.slice none 0 0) (.slice none 0 0)) P)
  case first=>
   cases m:decide (Rc.num j)with
   |false=>
    have r:=Hq m;clear m
    go_wp2_with(first|(go_at_call 273;(with_reducible refine(Ld j _ _ ?_).mono ?_);(with_reducible exact heap_alloc_new _ _);rintro e w5 ⟨rfl,k⟩;rw[r.out];have S:=Aa (y.out.step (Af (Ac _ _) k)).br))
    go_meet
    case rel=>exact⟨by simp[r.out],y.out.step (Af (Ac _ _) k)⟩
   |true=>
    have r:=Hq m;clear m
    by_cases h1:f.length≤1000
    ·have e1:decide ((f.length:Int)≤1000)=true:=decide_eq_true (by omega)
     have N:=Hq (decide_eq_true h1);have ag:(f.length:Int)≤1000:=(by omega);clear h1
     by_cases h2:i.length≤2000
     ·have e2:decide ((i.length:Int)≤2000)=true:=decide_eq_true (by omega)
      have T:=Hq (decide_eq_true h2);have ah:(i.length:Int)≤2000:=(by omega);clear h2
      go_wp2_with(first|(go_at_call 273;(with_reducible refine(Ld j _ _ ?_).mono ?_);(with_reducible exact heap_alloc_new _ _);rintro e w5 ⟨rfl,k⟩;rw[r.out];have S:=Aa (y.out.step (Af (Ac _ _) k)).br))
      go_meet
      case rel=>exact⟨by simp[r.out,N.out,T.out],y.out.step (Af (Ac _ _) k)⟩
     ·have e2:decide ((i.length:Int)≤2000)=false:=decide_eq_false (by omega)
      have T:=Hq (decide_eq_false h2);have ah:2000<(i.length:Int):=(by omega);clear h2
      go_wp2_with(first|(go_at_call 273;(with_reducible refine(Ld j _ _ ?_).mono ?_);(with_reducible exact heap_alloc_new _ _);rintro e w5 ⟨rfl,k⟩;rw[r.out];have S:=Aa (y.out.step (Af (Ac _ _) k)).br))
      go_meet
      case rel=>exact⟨by simp[r.out,N.out,T.out],y.out.step (Af (Ac _ _) k)⟩
    ·have e1:decide ((f.length:Int)≤1000)=false:=decide_eq_false (by omega)
     have N:=Hq (decide_eq_false h1);have ag:1000<(f.length:Int):=(by omega);clear h1
     go_wp2_with(first|(go_at_call 273;(with_reducible refine(Ld j _ _ ?_).mono ?_);(with_reducible exact heap_alloc_new _ _);rintro e w5 ⟨rfl,k⟩;rw[r.out];have S:=Aa (y.out.step (Af (Ac _ _) k)).br))
     go_meet
     case rel=>exact⟨by simp[r.out,N.out],y.out.step (Af (Ac _ _) k)⟩
  case rest=>
  obtain⟨W1,rfl⟩:=ex wc;obtain⟨rfl,a8⟩:=hcut;have H1:=Hq a8;clear G O a8 y;have G:=Aa H1.out.br;have O:=Aa H1.out.bf
  go_upto_region 16 with(fail)
  go_cut [4] (fun s P=>s= .bool ((decide (Rc.num j)&&(decide (f.length≤1000)&&decide (i.length≤2000)))&&decide (∀ t∈f,Rc.Jj t))∧E9 w w.heap.size K.heap.size L.heap.size (Cs a prev b 9 Ae next j ok os v on l root x u es (.slice A f.length c) (.slice B i.length d)) #[false,false,false,true,true] (Cs a prev b 9 0 0 0 0 0 ⟨#[]⟩ ⟨#[]⟩ 0 0 ⟨#[]⟩ 0 0 (.slice none 0 0) (.slice none 0 0)) P)
  case first=>
   generalize p:(decide (Rc.num j)&&(decide (f.length≤1000)&&decide (i.length≤2000)))=qa;have H:=Hq p;clear p
   cases qa with
   |false=>
    go_wp2_with fail;go_meet
    case rel=>exact⟨by simp[H.out],H1.out⟩
   |true=>
    have hlen:f.length≤1048576:=(by have:=(of_decide_eq_true (Bool.and_eq_true_iff.1 (Bool.and_eq_true_iff.1 H.out).2).1);omega);have HC:=Hq (Xd f hlen A c W1 (E.out.txns.below H1.out.below));generalize m:decide (∀ t∈f,Rc.Jj t)=qt at HC;have r:=Hq m;clear m
    go_wp2_with(first|(go_at_call 277;(with_reducible refine HC.out.mono ?_);rintro e w5 ⟨rfl,k⟩))
    go_meet
    case rel=>exact⟨by simp[H.out,r.out],H1.out.step k⟩
  case rest=>
  obtain⟨W2,rfl⟩:=ex wc;obtain⟨rfl,aa⟩:=hcut;have Z:=Hq aa;clear G O aa H1;have G:=Aa Z.out.br;have O:=Aa Z.out.bf
  go_upto_region 17 with(fail)
  go_cut [4] (fun s P=>s= .bool (((decide (Rc.num j)&&(decide (f.length≤1000)&&decide (i.length≤2000)))&&decide (∀ t∈f,Rc.Jj t))&&decide (∀ d∈i,Rc.Fk d))∧E9 w w.heap.size K.heap.size L.heap.size (Cs a prev b 9 Ae next j ok os v on l root x u es (.slice A f.length c) (.slice B i.length d)) #[false,false,false,true,true] (Cs a prev b 9 0 0 0 0 0 ⟨#[]⟩ ⟨#[]⟩ 0 0 ⟨#[]⟩ 0 0 (.slice none 0 0) (.slice none 0 0)) P)
  case first=>
   generalize p:((decide (Rc.num j)&&(decide (f.length≤1000)&&decide (i.length≤2000)))&&decide (∀ t∈f,Rc.Jj t))=qa;have H:=Hq p;clear p
   cases qa with
   |false=>
    go_wp2_with fail;go_meet
    case rel=>exact⟨by simp[H.out],Z.out⟩
   |true=>
    have hlen:i.length≤1048576:=(by have:=(of_decide_eq_true (Bool.and_eq_true_iff.1 (Bool.and_eq_true_iff.1 (Bool.and_eq_true_iff.1 H.out).1).2).2);omega);have HC:=Hq (Sv i hlen B d W2 (E.out.dirty.below Z.out.below));generalize m:decide (∀ d∈i,Rc.Fk d)=qt at HC;have r:=Hq m;clear m
    go_wp2_with(first|(go_at_call 279;(with_reducible refine HC.out.mono ?_);rintro e w5 ⟨rfl,k⟩))
    go_meet
    case rel=>exact⟨by simp[H.out,r.out],Z.out.step k⟩
  case rest=>
  obtain⟨W3,rfl⟩:=ex wc;obtain⟨rfl,ad⟩:=hcut;have z:=Hq ad;clear G O ad Z;have G:=Aa z.out.br;have O:=Aa z.out.bf;have ai:=Aa z.out.bx;have aj:=Ap z.out.bx;have ak:w.heap.size≠L.heap.size:=by have:=z.out.ab;omega
  go_upto_region 18 with(fail)
  go_cut [] (fun P=>E9 w w.heap.size K.heap.size L.heap.size (Cs a prev b 9 Ae next j ok os v on l root x u es (.slice A f.length c) (.slice B i.length d)) #[false,false,false,true,true] (Cs a prev b 9 0 0 j 0 0 ⟨#[]⟩ ⟨#[]⟩ 0 0 ⟨#[]⟩ 0 0 (.slice A f.length c) (.slice B i.length d)) P)
  case first=>
   go_region
   all_goals
    go_wp2_with fail;go_meet
    case rel=>
     first
      |(have h:=(((z.out.set 6 (.int .i64 j)).set 16 (.slice A f.length c)).set 17 (.slice B i.length d)).drew;simpa using h)
      |(have h:=(((z.out.set 6 (.int .i64 j)).set 17 (.slice B i.length d)).set 16 (.slice A f.length c)).drew;simpa using h)
      |(have h:=(((z.out.set 16 (.slice A f.length c)).set 6 (.int .i64 j)).set 17 (.slice B i.length d)).drew;simpa using h)
      |(have h:=(((z.out.set 16 (.slice A f.length c)).set 17 (.slice B i.length d)).set 6 (.int .i64 j)).drew;simpa using h)
      |(have h:=(((z.out.set 17 (.slice B i.length d)).set 6 (.int .i64 j)).set 16 (.slice A f.length c)).drew;simpa using h)
      |(have h:=(((z.out.set 17 (.slice B i.length d)).set 16 (.slice A f.length c)).set 6 (.int .i64 j)).drew;simpa using h)
  case rest=>
  obtain⟨W4,rfl⟩:=ex wc;have C:=Hq hcut;clear G O ai aj hcut z;have G:=Aa C.out.br;have O:=Aa C.out.bf
  go_upto_region 19 with(fail)
  generalize p:(((decide (Rc.num j)&&(decide (f.length≤1000)&&decide (i.length≤2000)))&&decide (∀ t∈f,Rc.Jj t))&&decide (∀ d∈i,Rc.Fk d))=qa;have H:=Hq p;clear p
  cases qa with
  |false=>
   go_wp2_with fail;go_ret;refine⟨?_,C.out.below⟩;have HF:=HQ.out.trans (Rc.C7 fun h=>by
    have h2:=(RI.out.1 h).2.1;have h3:=H.out;simp only[Bool.and_eq_false_iff,decide_eq_false_iff_not]at h3
    grind)
   rw[HF]
   rfl
  |true=>
   have HS:=Hq (Kq ⟨a,prev,b,9,0,0,j,⟨0,0,⟨#[]⟩,⟨#[]⟩⟩,0,0,⟨⟨#[]⟩,0,0⟩,f,i⟩ ⟨a,prev,b,9,Ae,next,j,⟨ok,os,v,on⟩,l,root,⟨x,u,es⟩,f,i⟩ A A B B c c d d W4 ⟨(E.out.txns.below C.out.below),(E.out.dirty.below C.out.below),⟨a1,a6⟩⟩ (E.out.below C.out.below));dsimp only[D8,Dz,List.length_nil]at HS
   cases he:decide ((⟨a,prev,b,9,0,0,j,⟨0,0,⟨#[]⟩,⟨#[]⟩⟩,0,0,⟨⟨#[]⟩,0,0⟩,f,i⟩:Rc.Rec)=⟨a,prev,b,9,Ae,next,j,⟨ok,os,v,on⟩,l,root,⟨x,u,es⟩,f,i⟩)with
   |false=>
    have HE:=Hq he;clear he
    go_wp2_with(first|with_reducible refine lL C.out.bx Bz ?_|with_reducible refine lL C.out.br Bz ?_|(go_at_call 281;(with_reducible refine HS.out.mono ?_);rintro e w9 ⟨rfl,U⟩;rw[HE.out]))
    go_ret;refine⟨?_,Af C.out.below U⟩;rw[HQ.out.trans (Rc.C7 fun h=>of_decide_eq_false HE.out (RI.out.1 h).2.2)]
    rfl
   |true=>
    have HE:=Hq he;clear he
    go_wp2_with(first|with_reducible refine lL C.out.bx Bz ?_|with_reducible refine lL C.out.br Bz ?_|(go_at_call 281;(with_reducible refine HS.out.mono ?_);rintro e w9 ⟨rfl,U⟩;rw[HE.out]))
    go_ret;refine⟨?_,Af C.out.below U⟩;rw[HQ.out.trans (Rc.Fy (RI.out.2 ⟨HN.out,by have h3:=H.out;simpa only[Bool.and_eq_true,decide_eq_true_eq]using h3,of_decide_eq_true HE.out⟩))]
    rfl
end Go.Proofs.YtpogpkonojhakaaGreatDoor
