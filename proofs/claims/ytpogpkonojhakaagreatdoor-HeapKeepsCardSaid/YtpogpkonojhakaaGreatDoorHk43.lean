import Derived.Test.YtpogpkonojhakaaGreatDoorHk00
import Derived.Test.YtpogpkonojhakaaGreatDoorHk04
import Derived.Test.YtpogpkonojhakaaGreatDoorHk05
import Derived.BigRegion
set_option maxRecDepth 100000
set_option maxHeartbeats 16000000
set_option linter.unusedSimpArgs false
namespace Go.Proofs.YtpogpkonojhakaaGreatDoor
open Go.RowKit
theorem dC (a prev b Ae next n ok os f root o es:Int)(p on q:ByteArray)(r:List Rc.Bc)(t:List Rc.Bv)(A B:Option Addr)(c d:Nat)(w:World)(S:Ii w ⟨a,prev,b,4,Ae,next,n,⟨ok,os,p,on⟩,f,root,⟨q,o,es⟩,r,t⟩ A c B d):
 Cr 258 #[.agg (Cs a prev b 4 Ae next n ok os p on f root q o es (.slice A r.length c) (.slice B t.length d))] w (.bool (Rc.Dw ⟨a,prev,b,4,Ae,next,n,⟨ok,os,p,on⟩,f,root,⟨q,o,es⟩,r,t⟩)):=by
 have u:=Hq (fun W=>Ho 4 W);rw[show Zr 4= .tuple #[Gz false false true false true,true]from rfl]at u;have l:=Hq (fun W g h=>Le a prev b W g h);obtain⟨Q,T⟩:=ex (Rc.Dw ⟨a,prev,b,4,Ae,next,n,⟨ok,os,p,on⟩,f,root,⟨q,o,es⟩,r,t⟩);rw[← T];have N:=Hq T;have v:=S.small;simp only at v;have aa:=v.1;have ad:=v.2;have U:=Hq S;clear T S v;have G:=Hq (Rc.sM a prev b Ae next n f root ⟨ok,os,p,on⟩ ⟨q,o,es⟩ r t)
 cases E:decide (Rc.num a∧Rc.num prev∧Rc.num b)with
 |false=>
  rw[E]at l;have Y:=Hq (N.out.trans (Rc.C7 fun h=>of_decide_eq_false E (G.out.1 h).1));clear E G;go_enter Tryz.func258,Tryz.ntmps258
  go_wp2_with(first
   |(go_at_call 272;(with_reducible refine(u.out _).mono ?_);rintro e y ⟨rfl,i⟩;have z:=Aa (Bs i);have Z:w.heap.size<y.heap.size:=(by have:=i.size;simp at this;omega);have k:=Hq i;clear i)
   |(go_at_call 273;(with_reducible refine(l.out _ _ ?_).mono ?_);(with_reducible exact Fc _ _ _);rintro e C ⟨rfl,j⟩;have H:=Aa (Ag (Bs k.out) (Af (Aj (Ac _ _)) j));have a1:y.heap.size+1<C.heap.size:=(by have:=j.size;simp at this;omega);have x:=Hq j;clear j)
   |with_reducible refine sN (Cs a prev b 4 0 0 0 0 0 ⟨#[]⟩ ⟨#[]⟩ 0 0 ⟨#[]⟩ 0 0 (.slice none 0 0) (.slice none 0 0)) ?_)
  go_ret;exact⟨by rw[Y.out];rfl,Af (Af (Ac _ _) k.out) (Af (Aj (Ac _ _)) x.out)⟩
 |true=>
  rw[E]at l;have HN:=Hq (of_decide_eq_true E);clear E;go_enter Tryz.func258,Tryz.ntmps258
  go_upto_region 5 with(first
   |(go_at_call 272;(with_reducible refine(u.out _).mono ?_);rintro e y ⟨rfl,i⟩;have z:=Aa (Bs i);have Z:w.heap.size<y.heap.size:=(by have:=i.size;simp at this;omega);have k:=Hq i;clear i)
   |(go_at_call 273;(with_reducible refine(l.out _ _ ?_).mono ?_);(with_reducible exact Fc _ _ _);rintro e C ⟨rfl,j⟩;have H:=Aa (Ag (Bs k.out) (Af (Aj (Ac _ _)) j));have a1:y.heap.size+1<C.heap.size:=(by have:=j.size;simp at this;omega);have x:=Hq j;clear j)
   |with_reducible refine sN (Cs a prev b 4 0 0 0 0 0 ⟨#[]⟩ ⟨#[]⟩ 0 0 ⟨#[]⟩ 0 0 (.slice none 0 0) (.slice none 0 0)) ?_)
  have I:=Hq (I6 (R:=(Cs a prev b 4 Ae next n ok os p on f root q o es (.slice A r.length c) (.slice B t.length d))) (F:=#[false,false,true,false,true]) (X:=(Cs a prev b 4 0 0 0 0 0 ⟨#[]⟩ ⟨#[]⟩ 0 0 ⟨#[]⟩ 0 0 (.slice none 0 0) (.slice none 0 0))) k.out x.out);clear z H l u k x;obtain⟨V,hV⟩:=ex (C.alloc (.cells (Cs a prev b 4 0 0 0 0 0 ⟨#[]⟩ ⟨#[]⟩ 0 0 ⟨#[]⟩ 0 0 (.slice none 0 0) (.slice none 0 0)) 105));rw[← hV]at I ⊢;clear hV;have z:=Aa I.out.br;have O:=Aa I.out.bf
  go_upto_region 12 with(fail)
  go_cut [4] (fun s we=>s= .bool (decide (Rc.num next))∧E9 w w.heap.size y.heap.size C.heap.size (Cs a prev b 4 Ae next n ok os p on f root q o es (.slice A r.length c) (.slice B t.length d)) #[false,false,true,false,true] (Cs a prev b 4 0 0 0 0 0 ⟨#[]⟩ ⟨#[]⟩ 0 0 ⟨#[]⟩ 0 0 (.slice none 0 0) (.slice none 0 0)) we)
  case first=>
   generalize J:decide (Rc.num next)=qt;have HT:=Hq J;clear J
   go_wp2_with(first|(go_at_call 273;(with_reducible refine(Ld next _ _ ?_).mono ?_);(with_reducible exact heap_alloc_new _ _);rintro e w5 ⟨rfl,a6⟩;rw[HT.out]))
   go_meet
   case rel=>exact⟨by simp[HT.out],I.out.step (Af (Ac _ _) a6)⟩
  case rest=>
  obtain⟨W1,rfl⟩:=ex wc;obtain⟨rfl,K⟩:=hcut;have H1:=Hq K;clear z O K I;have z:=Aa H1.out.br;have O:=Aa H1.out.bf;have a7:=Aa H1.out.bx;have a8:=Ap H1.out.bx;have ae:w.heap.size≠C.heap.size:=by have:=H1.out.ab;omega
  go_upto_region 14 with(fail)
  have h:=H1.out.set 5 (.int .i64 next);have m:Hid (E9 w w.heap.size y.heap.size C.heap.size (Cs a prev b 4 Ae next n ok os p on f root q o es (.slice A r.length c) (.slice B t.length d)) #[false,false,true,false,true] (Cs a prev b 4 0 next 0 0 0 ⟨#[]⟩ ⟨#[]⟩ 0 0 ⟨#[]⟩ 0 0 (.slice none 0 0) (.slice none 0 0)) _):=Hq (by simpa using h);clear h z O a7 a8 H1;generalize World.setCell _ _ _=W2 at m ⊢;have z:=Aa m.out.br;have O:=Aa m.out.bf
  go_upto_region 19 with(fail)
  generalize L:(decide (Rc.num next))=qa;have HA:=Hq L;clear L
  cases qa with
  |false=>
   go_wp2_with fail;go_ret;refine⟨?_,m.out.below⟩;have Y:=N.out.trans (Rc.C7 fun h=>by
    have h2:=(G.out.1 h).2.1;have h3:=HA.out;simp only[decide_eq_false_iff_not]at h3
    grind)
   rw[Y]
   rfl
  |true=>
   have HS:=Hq (Kq ⟨a,prev,b,4,0,next,0,⟨0,0,⟨#[]⟩,⟨#[]⟩⟩,0,0,⟨⟨#[]⟩,0,0⟩,[],[]⟩ ⟨a,prev,b,4,Ae,next,n,⟨ok,os,p,on⟩,f,root,⟨q,o,es⟩,r,t⟩ none A none B 0 c 0 d W2 ⟨(Reads.none_ _ _ _ _),(Reads.none_ _ _ _ _),⟨by simp,by simp⟩⟩ (U.out.below m.out.below));dsimp only[D8,Dz,List.length_nil]at HS
   cases P:decide ((⟨a,prev,b,4,0,next,0,⟨0,0,⟨#[]⟩,⟨#[]⟩⟩,0,0,⟨⟨#[]⟩,0,0⟩,[],[]⟩:Rc.Rec)=⟨a,prev,b,4,Ae,next,n,⟨ok,os,p,on⟩,f,root,⟨q,o,es⟩,r,t⟩)with
   |false=>
    have M:=Hq P;clear P
    go_wp2_with(first|with_reducible refine lL m.out.bx Bz ?_|with_reducible refine lL m.out.br Bz ?_|(go_at_call 281;(with_reducible refine HS.out.mono ?_);rintro e w9 ⟨rfl,D⟩;rw[M.out]))
    go_ret;refine⟨?_,Af m.out.below D⟩;rw[N.out.trans (Rc.C7 fun h=>of_decide_eq_false M.out (G.out.1 h).2.2)]
    rfl
   |true=>
    have M:=Hq P;clear P
    go_wp2_with(first|with_reducible refine lL m.out.bx Bz ?_|with_reducible refine lL m.out.br Bz ?_|(go_at_call 281;(with_reducible refine HS.out.mono ?_);rintro e w9 ⟨rfl,D⟩;rw[M.out]))
    go_ret;refine⟨?_,Af m.out.below D⟩;rw[N.out.trans (Rc.Fy (G.out.2 ⟨HN.out,by have h3:=HA.out;simpa only[Bool.and_eq_true,decide_eq_true_eq]using h3,of_decide_eq_true M.out⟩))]
    rfl
theorem Z8 (a prev b Ae next n ok os f root o es:Int)(i on p:ByteArray)(q:List Rc.Bc)(r:List Rc.Bv)(A B:Option Addr)(c d:Nat)(w:World)(Y:Ii w ⟨a,prev,b,8,Ae,next,n,⟨ok,os,i,on⟩,f,root,⟨p,o,es⟩,q,r⟩ A c B d):
 Cr 258 #[.agg (Cs a prev b 8 Ae next n ok os i on f root p o es (.slice A q.length c) (.slice B r.length d))] w (.bool (Rc.Dw ⟨a,prev,b,8,Ae,next,n,⟨ok,os,i,on⟩,f,root,⟨p,o,es⟩,q,r⟩)):=by
 have u:=Hq (fun W=>Ho 8 W);rw[show Zr 8= .tuple #[Gz true false false false true,true]from rfl]at u;have m:=Hq (fun W g h=>Le a prev b W g h);obtain⟨Q,Z⟩:=ex (Rc.Dw ⟨a,prev,b,8,Ae,next,n,⟨ok,os,i,on⟩,f,root,⟨p,o,es⟩,q,r⟩);rw[← Z];have P:=Hq Z;have v:=Y.small;simp only at v;have ae:=v.1;have af:=v.2;have a1:=Hq Y;clear Z Y v;have I:=Hq (Rc.sO a prev b Ae next n f root ⟨ok,os,i,on⟩ ⟨p,o,es⟩ q r)
 cases H:decide (Rc.num a∧Rc.num prev∧Rc.num b)with
 |false=>
  rw[H]at m;have HF:=Hq (P.out.trans (Rc.C7 fun h=>of_decide_eq_false H (I.out.1 h).1));clear H I;go_enter Tryz.func258,Tryz.ntmps258
  go_wp2_with(first
   |(go_at_call 272;(with_reducible refine(u.out _).mono ?_);rintro e z ⟨rfl,j⟩;have C:=Aa (Bs j);have a6:w.heap.size<z.heap.size:=(by have:=j.size;simp at this;omega);have l:=Hq j;clear j)
   |(go_at_call 273;(with_reducible refine(m.out _ _ ?_).mono ?_);(with_reducible exact Fc _ _ _);rintro e D ⟨rfl,k⟩;have J:=Aa (Ag (Bs l.out) (Af (Aj (Ac _ _)) k));have a7:z.heap.size+1<D.heap.size:=(by have:=k.size;simp at this;omega);have x:=Hq k;clear k)
   |with_reducible refine sN (Cs a prev b 8 0 0 0 0 0 ⟨#[]⟩ ⟨#[]⟩ 0 0 ⟨#[]⟩ 0 0 (.slice none 0 0) (.slice none 0 0)) ?_)
  go_ret;exact⟨by rw[HF.out];rfl,Af (Af (Ac _ _) l.out) (Af (Aj (Ac _ _)) x.out)⟩
 |true=>
  rw[H]at m;have HN:=Hq (of_decide_eq_true H);clear H;go_enter Tryz.func258,Tryz.ntmps258
  go_upto_region 5 with(first
   |(go_at_call 272;(with_reducible refine(u.out _).mono ?_);rintro e z ⟨rfl,j⟩;have C:=Aa (Bs j);have a6:w.heap.size<z.heap.size:=(by have:=j.size;simp at this;omega);have l:=Hq j;clear j)
   |(go_at_call 273;(with_reducible refine(m.out _ _ ?_).mono ?_);(with_reducible exact Fc _ _ _);rintro e D ⟨rfl,k⟩;have J:=Aa (Ag (Bs l.out) (Af (Aj (Ac _ _)) k));have a7:z.heap.size+1<D.heap.size:=(by have:=k.size;simp at this;omega);have x:=Hq k;clear k)
   |with_reducible refine sN (Cs a prev b 8 0 0 0 0 0 ⟨#[]⟩ ⟨#[]⟩ 0 0 ⟨#[]⟩ 0 0 (.slice none 0 0) (.slice none 0 0)) ?_)
  have E:=Hq (I6 (R:=(Cs a prev b 8 Ae next n ok os i on f root p o es (.slice A q.length c) (.slice B r.length d))) (F:=#[true,false,false,false,true]) (X:=(Cs a prev b 8 0 0 0 0 0 ⟨#[]⟩ ⟨#[]⟩ 0 0 ⟨#[]⟩ 0 0 (.slice none 0 0) (.slice none 0 0))) l.out x.out);clear C J m u l x;obtain⟨V,hV⟩:=ex (D.alloc (.cells (Cs a prev b 8 0 0 0 0 0 ⟨#[]⟩ ⟨#[]⟩ 0 0 ⟨#[]⟩ 0 0 (.slice none 0 0) (.slice none 0 0)) 105));rw[← hV]at E ⊢;clear hV;have C:=Aa E.out.br;have S:=Aa E.out.bf
  go_upto_region 6 with(fail)
  go_cut [4] (fun s we=>s= .bool (decide (Rc.pg Ae)&&decide (Rc.Iz ⟨ok,os,i,on⟩))∧E9 w w.heap.size z.heap.size D.heap.size (Cs a prev b 8 Ae next n ok os i on f root p o es (.slice A q.length c) (.slice B r.length d)) #[true,false,false,false,true] (Cs a prev b 8 0 0 0 0 0 ⟨#[]⟩ ⟨#[]⟩ 0 0 ⟨#[]⟩ 0 0 (.slice none 0 0) (.slice none 0 0)) we)
  case first=>
   cases T:decide (Rc.pg Ae)with
   |false=>
    have K:=Hq T;clear T
    go_wp2_with(first|(go_at_call 274;(with_reducible refine(Ob Ae _ _ ?_).mono ?_);(with_reducible exact heap_alloc_new _ _);rintro e w3 ⟨rfl,y⟩;rw[K.out]))
    go_meet
    case rel=>exact⟨by simp[K.out],E.out.step (Af (Ac _ _) y)⟩
   |true=>
    have K:=Hq T;clear T;generalize L:decide (Rc.Iz ⟨ok,os,i,on⟩)=qo;have HO:=Hq L;clear L
    go_wp2_with(first|(go_at_call 274;(with_reducible refine(Ob Ae _ _ ?_).mono ?_);(with_reducible exact heap_alloc_new _ _);rintro e w3 ⟨rfl,y⟩;rw[K.out];have ag:=Aa (E.out.step (Af (Ac _ _) y)).br)|(go_at_call 275;(with_reducible refine(dA ⟨ok,os,i,on⟩ _).mono ?_);rintro e w4 ⟨rfl,a8⟩;rw[HO.out]))
    go_meet
    case rel=>exact⟨by simp[K.out,HO.out],(E.out.step (Af (Ac _ _) y)).step a8⟩
  case rest=>
  obtain⟨W1,rfl⟩:=ex wc;obtain⟨rfl,M⟩:=hcut;have H1:=Hq M;clear C S M E;have C:=Aa H1.out.br;have S:=Aa H1.out.bf;have aa:=Aa H1.out.bx;have ad:=Ap H1.out.bx;have ah:w.heap.size≠D.heap.size:=by have:=H1.out.ab;omega
  go_upto_region 7 with(fail)
  go_cut [] (fun we=>E9 w w.heap.size z.heap.size D.heap.size (Cs a prev b 8 Ae next n ok os i on f root p o es (.slice A q.length c) (.slice B r.length d)) #[true,false,false,false,true] (Cs a prev b 8 Ae 0 0 ok os i on 0 0 ⟨#[]⟩ 0 0 (.slice none 0 0) (.slice none 0 0)) we)
  case first=>
   go_region
   all_goals
    go_wp2_with fail;go_meet
    case rel=>
     first
      |(have h:=(((((H1.out.set 4 (.int .i64 Ae)).set 7 (.int .i64 ok)).set 8 (.int .i64 os)).set 9 (.string i)).set 10 (.string on)).drew;simpa using h)
      |(have h:=(((((H1.out.set 7 (.int .i64 ok)).set 8 (.int .i64 os)).set 9 (.string i)).set 10 (.string on)).set 4 (.int .i64 Ae)).drew;simpa using h)
  case rest=>
  obtain⟨W2,rfl⟩:=ex wc;have t:=Hq hcut;clear C S aa ad hcut H1;have C:=Aa t.out.br;have S:=Aa t.out.bf
  go_upto_region 19 with(fail)
  generalize N:(decide (Rc.pg Ae)&&decide (Rc.Iz ⟨ok,os,i,on⟩))=qa;have HA:=Hq N;clear N
  cases qa with
  |false=>
   go_wp2_with fail;go_ret;refine⟨?_,t.out.below⟩;have HF:=P.out.trans (Rc.C7 fun h=>by
    have h2:=(I.out.1 h).2.1;have h3:=HA.out;simp only[Bool.and_eq_false_iff,decide_eq_false_iff_not]at h3
    grind)
   rw[HF]
   rfl
  |true=>
   have HS:=Hq (Kq ⟨a,prev,b,8,Ae,0,0,⟨ok,os,i,on⟩,0,0,⟨⟨#[]⟩,0,0⟩,[],[]⟩ ⟨a,prev,b,8,Ae,next,n,⟨ok,os,i,on⟩,f,root,⟨p,o,es⟩,q,r⟩ none A none B 0 c 0 d W2 ⟨(Reads.none_ _ _ _ _),(Reads.none_ _ _ _ _),⟨by simp,by simp⟩⟩ (a1.out.below t.out.below));dsimp only[D8,Dz,List.length_nil]at HS
   cases U:decide ((⟨a,prev,b,8,Ae,0,0,⟨ok,os,i,on⟩,0,0,⟨⟨#[]⟩,0,0⟩,[],[]⟩:Rc.Rec)=⟨a,prev,b,8,Ae,next,n,⟨ok,os,i,on⟩,f,root,⟨p,o,es⟩,q,r⟩)with
   |false=>
    have O:=Hq U;clear U
    go_wp2_with(first|with_reducible refine lL t.out.bx Bz ?_|with_reducible refine lL t.out.br Bz ?_|(go_at_call 281;(with_reducible refine HS.out.mono ?_);rintro e w9 ⟨rfl,G⟩;rw[O.out]))
    go_ret;refine⟨?_,Af t.out.below G⟩;rw[P.out.trans (Rc.C7 fun h=>of_decide_eq_false O.out (I.out.1 h).2.2)]
    rfl
   |true=>
    have O:=Hq U;clear U
    go_wp2_with(first|with_reducible refine lL t.out.bx Bz ?_|with_reducible refine lL t.out.br Bz ?_|(go_at_call 281;(with_reducible refine HS.out.mono ?_);rintro e w9 ⟨rfl,G⟩;rw[O.out]))
    go_ret;refine⟨?_,Af t.out.below G⟩;rw[P.out.trans (Rc.Fy (I.out.2 ⟨HN.out,by have h3:=HA.out;simpa only[Bool.and_eq_true,decide_eq_true_eq]using h3,of_decide_eq_true O.out⟩))]
    rfl
end Go.Proofs.YtpogpkonojhakaaGreatDoor
