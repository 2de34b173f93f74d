import Derived.Test.YtmldoihahndcgaaGreatDoorHq00
import Derived.Test.YtmldoihahndcgaaGreatDoorHq09
import Derived.Test.YtmldoihahndcgaaGreatDoorHq02
set_option maxRecDepth 100000
set_option maxHeartbeats 16000000
set_option linter.unusedSimpArgs false
namespace Go.Proofs.YtmldoihahndcgaaGreatDoor
open Go.RowKit Sc
abbrev Zq8:Array Value:=#[(),(),(),'s',(),false,(),(),(),(),"",'s',(),'s',()]
abbrev Rq9 (r:Rc.Rec)(rA:Option Addr)(rn rc:Nat)(rB:Option Addr)(rm rd:Nat):Array Value:=#[r.lsn,r.prev,r.txn,r.kind,r.page,r.next,r.num,r.op.kind,r.op.slot,r.op.Bd,r.op.new,r.how,r.root,r.e.key,r.e.page,r.e.slot,.slice rA rn rc,.slice rB rm rd]
def P1 (f:Fr)(b:ByteArray)(lsn:Int):Fr:=⟨f.page,b,f.pins,true,if f.rc=0 then lsn else f.rc⟩
theorem Qp (s:Tx.St)(p:SP)(fs:List Fr)(Y:fs.length≤100)(k:Nat)(Z:k<fs.length)(b:ByteArray)(a:Int)(w:World)(h:An w s p fs):
 Cq 184 #[Af s p,.int .i64 (k:Int),b,a] w fun e w'=>∃ q:SP,e= .returned (Af s q)∧An w' s q (fs.set k (P1 (Cp fs k) b a))∧Bw w w':=by
 rw[Br Z];have m:=Hq (fun f W hp=>Gx s p fs Y k Z f W hp);have a1:=Hq h.fn;have aj:(0:Int)≤(k:Int):=by omega
 have ak:(k:Int)<(fs.length:Int):=by omega
 obtain⟨f,v⟩:=ex (fs[k]);rw[← v];have J:=h.ft.lt;have L:=Hq v;clear v;go_enter Tryz.func184,Tryz.ntmps184;go_upto_region 1 with fail;have x:=Il w (Ai s p) 36 Zq8 36;obtain⟨y,N⟩:=Dr x;rw[← N]at x ⊢;clear N;have z:=Hq (h.below x.out.below);obtain⟨b1,off,O,a6,a7,c⟩:=Bi Cc z.out.fr Z;rw[← L.out]at c;have hc:=show y.cell? ⟨w.heap.size,11,none⟩=some (.slice (some ⟨b1,off,none⟩) fs.length p.fc)from by rw[Aa x.out.Ag,← O,← a1.out];rfl
 have P:=Hq (show y.rangeAt b1 (off+k*5) (F4 f)from c);clear c a6 a7 h O L
 go_upto_region 2 with(first
  |(refine Bt Kr fun K hK=>wp_load_mid 116 (.tmp 14) rfl b1 (off+k*5) rfl (F4 f) _ P.out Cw Kr Kr (hK _ _ ?_))
  |with_reducible refine sN (Cg f) ?_)
 have A:=Ad y (.cells (Cg f) 116);have H5:=Hq (x.out.step A);have j:=Hq (heap_alloc_new y (.cells (Cg f) 116));have B:=Hq (z.out.below A);have a8:w.heap.size+1<y.heap.size:=x.out.lt (i:=1) (by simp);obtain⟨g,V⟩:=ex y.heap.size;obtain⟨u,n⟩:=ex (y.alloc (.cells (Cg f) 116));rw[← V,← n]at j;rw[← n]at H5 B;rw[← n,← V];rw[← V]at a8;have C:=Hq (show ∀ X,p.F=some X→X.block≠g from fun X e=>by have:=J X e;omega);clear n V A P x z hc J
 try simp only[Act.put]
 have l:=Hq (Bs 1 j.out (.string b));have aa:=show u.cell? ⟨g,1,none⟩=some (.string f.bytes)from(by rw[Aa j.out];rfl);have ae:=Ao j.out 1;have af:=show(u.setCell ⟨g,1,none⟩ (.string b)).cell? ⟨g,3,none⟩=some (.bool f.mark)from(by rw[Aa l.out];rfl);have ag:=Ao l.out 3;go_upto_region 3 with fail;have d:=Hq (show((u.setCell ⟨g,1,none⟩ (.string b)).setCell ⟨g,3,none⟩ (.bool true)).heap[g]? =some (.cells (Cg ⟨f.page,b,f.pins,true,f.rc⟩) 116 (0,0))from by have:=Bs 3 l.out (.bool true);simpa using this);have Q:Below g u ((u.setCell ⟨g,1,none⟩ (.string b)).setCell ⟨g,3,none⟩ (.bool true)):=((show Below g u u from⟨rfl,rfl,rfl,Nat.le_refl _,fun _ _=>rfl⟩).setCell (p:=⟨g,1,none⟩) (Nat.le_refl _) (.string b)).setCell (p:=⟨g,3,none⟩) (Nat.le_refl _) (.bool true);have R:=Hq (H5.out.under (M:=g) (by simp;omega) Q);have o:=Hq ((B.out.own j.out C.out 1 (.string b)).own l.out C.out 3 (.bool true));generalize ((u.setCell ⟨g,1,none⟩ (.string b)).setCell ⟨g,3,none⟩ (.bool true))=w7 at d R o ⊢;clear aa ae af ag Q l j H5 B
 try simp only[Act.put]
 have ah:=show w7.cell? ⟨g,4,none⟩=some (.int .i64 f.rc)from(by rw[Aa d.out];rfl)
 by_cases I:f.rc=0
 ·have S:(f.rc==0)=true:=by rw[I];rfl
  have D:=Hq (show P1 f b a=⟨f.page,b,f.pins,true,a⟩from by unfold P1;rw[if_pos I]);have ai:=Ao d.out 4;clear I;go_upto_region 5 with fail;have T:=Hq (show(w7.setCell ⟨g,4,none⟩ (.int .i64 a)).heap[g]? =some (.cells (Cg ⟨f.page,b,f.pins,true,a⟩) 116 (0,0))from by have:=Bs 4 d.out (.int .i64 a);simpa using this);have H9:=Hq (R.out.under (M:=g) (by simp;omega) ((show Below g w7 w7 from⟨rfl,rfl,rfl,Nat.le_refl _,fun _ _=>rfl⟩).setCell (p:=⟨g,4,none⟩) (Nat.le_refl _) (.int .i64 a)));have U:=Hq (o.out.own d.out C.out 4 (.int .i64 a));generalize w7.setCell ⟨g,4,none⟩ (.int .i64 a)=w9 at T H9 U ⊢;have E:=Hq (m.out ⟨f.page,b,f.pins,true,a⟩);clear ah ai d R o S m
  try simp only[Act.put]
  go_wp2_with(first
   |with_reducible refine lL H9.out.Ag Ak ?_
   |with_reducible refine lL T.out Cw ?_
   |(go_at_call 146;refine(E.out _ U.out).mono ?_;rintro e w8 ⟨q,rfl,G,H⟩;have r:=Hq (H9.out.step H))
   |with_reducible refine lS (Ai s q) r.out.Ah ?_)
  refine rT1 r.out.Ah Ak ?_;exact⟨q,rfl,D.out▸G.other (t:=36) r.out.Ah (by decide) (by decide) (by decide) _,(r.out.row 1 (Ai s q) _ rfl).below⟩
 ·have S:(f.rc==0)=false:=beq_eq_false_iff_ne.2 I
  have D:=Hq (show P1 f b a=⟨f.page,b,f.pins,true,f.rc⟩from by unfold P1;rw[if_neg I]);have E:=Hq (m.out ⟨f.page,b,f.pins,true,f.rc⟩);clear m I
  go_wp2_with(first
   |with_reducible refine lL R.out.Ag Ak ?_
   |with_reducible refine lL d.out Cw ?_
   |(go_at_call 146;refine(E.out _ o.out).mono ?_;rintro e w8 ⟨q,rfl,G,H⟩;have r:=Hq (R.out.step H))
   |with_reducible refine lS (Ai s q) r.out.Ah ?_)
  refine rT1 r.out.Ah Ak ?_;exact⟨q,rfl,D.out▸G.other (t:=36) r.out.Ah (by decide) (by decide) (by decide) _,(r.out.row 1 (Ai s q) _ rfl).below⟩
noncomputable def Fh (s:Tx.St) (fs:List Fr) (r:Rc.Rec):Px:=
 if Bj r.op.new=false then⟨s,fs,1⟩else
 match Jl fs r.page with
 |some k=>⟨s,fs.set k (P1 (Cp fs k) (J6 r.op.new) r.lsn),0⟩
 |none=>if(A9 s fs).1.e=0 then⟨(A9 s fs).1.s,(A9 s fs).1.fs.set (A9 s fs).2 (P1 ⟨r.page,⟨#[]⟩,0,false,0⟩ (J6 r.op.new) r.lsn),0⟩else De s fs (A9 s fs).1
theorem Zt {N n B:Nat}(s:Tx.St)(p:SP)(fs:List Fr)(hW:Wf N n B s fs)(hB:B≤1000000)(r:Rc.Rec)(rA:Option Addr)(rn rc:Nat)(rB:Option Addr)(rm rd:Nat)(al:r.op.new.size≤140737488355328)(w:World)(h:An w s p fs):
 Cq 182 #[Af s p,.agg (Rq9 r rA rn rc rB rm rd)] w (Bk (Fh s fs r) w):=by
 have bc:=hW.nf;have L:=Hq (fun W=>Md r.op.new al W);obtain⟨X,hX⟩:=ex (Fh s fs r);rw[← hX]
 by_cases H:Bj r.op.new=true
 ·rw[H]at L
  have an:=Hq (fun W=>Uv r.op.new al W);have ao:=Hq (fun W (hb:Bw w W)=>Mo s p fs (by omega) r.page W (h.below hb));have O:=Hq (fun W (hb:Bw w W)=>S1 s p fs hW hB W (h.below hb));have P:=Wj hW;have HP:=Hq h;have a6:=Hq (fun k (ha:Jl fs r.page=some k)=>show X=⟨s,fs.set k (P1 (Cp fs k) (J6 r.op.new) r.lsn),0⟩from by rw[hX];unfold Fh;rw[if_neg (by rw[H];decide),ha]);have C:=Hq (fun(ha:Jl fs r.page=none) (hr:¬ (A9 s fs).1.e=0)=>show X=De s fs (A9 s fs).1 from by rw[hX];unfold Fh;rw[if_neg (by rw[H];decide),ha];simp only;rw[if_neg hr]);have D:=Hq (fun(ha:Jl fs r.page=none) (hr:(A9 s fs).1.e=0)=>show X=⟨(A9 s fs).1.s,(A9 s fs).1.fs.set (A9 s fs).2 (P1 ⟨r.page,⟨#[]⟩,0,false,0⟩ (J6 r.op.new) r.lsn),0⟩from by rw[hX];unfold Fh;rw[if_neg (by rw[H];decide),ha];simp only;rw[if_pos hr]);have HQ:=Hq (fun w' (q:SP) (H:An w' X.s q X.fs) (hb:Bw w w')=>show Bk X w (.returned (.tuple #[Af X.s q,X.e])) w' from⟨q,rfl,H,hb⟩);clear hX hW;generalize Bk X w=Q at HQ ⊢;have d:=Hq (show De s fs (A9 s fs).1=if(A9 s fs).1.e=0∨(A9 s fs).1.e=20 then(A9 s fs).1 else⟨s,fs,(A9 s fs).1.e⟩from rfl);generalize De s fs (A9 s fs).1=bk at C d;generalize A9 s fs=rm0 at O C D P d;obtain⟨⟨xs,a7,xe⟩,xk⟩:=rm0;simp only at O C D P d;generalize J6 r.op.new=nb at an a6 D;clear h H;go_enter Tryz.func182,Tryz.ntmps182;go_upto_region 1 with fail;have V:=Jo w (Ai s p) 36 (Rq9 r rA rn rc rB rm rd) 88 Zq8 36;obtain⟨W0,Y⟩:=Dr V;rw[← Y]at V ⊢;clear Y;have ad:=show W0.cell? ⟨(w.heap.size+1),10,none⟩=some (.string r.op.new)from by rw[Aa V.out.Ah];rfl
  go_upto_region 3 with(go_at_call 233;refine(L.out _).mono ?_;rintro e I ⟨rfl,Z⟩;have H1:=Hq (V.out.step Z))
  have aq:w.heap.size+2<I.heap.size:=H1.out.lt (i:=2) (by simp);clear ad Z V L
  go_cut [6,7,8] (fun x y z wc=>∃ (g:Nat) (kk:Int),x= .pointer (some ⟨g,0,none⟩)∧y= .int .i64 kk∧z= .int .i64 0∧w.heap.size+2<g∧g<wc.heap.size∧((kk= -1∧∀ f∈fs,¬ (Full f∧f.page=r.page))∨∃ (k:Nat) (hk:k<fs.length),kk=(k:Int)∧(Full fs[k]∧fs[k].page=r.page)∧∀ j (hj:j<k),¬ (Full (fs[j]'(by omega))∧(fs[j]'(by omega)).page=r.page))∧wc.heap[g]? =some (.cells (Ai s p) 36 (0,0))∧Dm w.heap.size w [((Ai s p),36),((Rq9 r rA rn rc rB rm rd),88),(Zq8,36)] wc)
  case first=>
   have ar:=Hq (fun W (hb:Bw I W)=>ao.out W (Ae H1.out.below (hb.mono (by have:=H1.out.below.size;omega))));have Z0:Bw I I.drew:=(Below.refl _ I).drew;have au:=show I.heap[w.heap.size]? =some (.cells (Ai s p) 36 (0,0))from H1.out.Ag;have b3:=show I.heap[w.heap.size+1]? =some (.cells (Rq9 r rA rn rc rB rm rd) 88 (0,0))from H1.out.Ah;have Hy:=Hq (fun(u:World) (a8:Bw I u)=>(show u.cell? ⟨w.heap.size+1,4,none⟩=some (.int .i64 r.page)from(by rw[Aa (Ac b3 a8)];rfl)));refine E4 (S:=(fun u=>Bw I u)) (fun a=>?_);refine Kt 0 (some 15) (v:=.agg (Ai s p)) rfl (yieldsIf_load_mid (by rfl) 36 (.tmp 2) rfl w.heap.size 0 (by rfl) (Ai s p).toList _ (fun u hu=>(by intro j v hj;rw[Nat.zero_add,Aa (Ac au hu)];simpa using hj)) Ak Kr Kr) ?_
   try simp only[Act.put,pS]
   refine Kt 1 (some 16) (v:=.agg (Ai s p)) rfl (yieldsIf_load_mid (by rfl) 36 (.tmp 2) rfl w.heap.size 0 (by rfl) (Ai s p).toList _ (fun u hu=>(by intro j v hj;rw[Nat.zero_add,Aa (Ac au hu)];simpa using hj)) Ak Kr Kr) ?_
   try simp only[Act.put,pS]
   refine Au 2 ?_;refine Au 3 ?_;refine wpAnyH_ready (rs:=[4,5]) Kr (by simp) ?_;refine(AllReadyH.cons (o:={dst:=some 19,op:=_,type:=_,pos:=_,after:=_,guard:=_}) rfl (fun K b=>?_) (AllReadyH.cons (o:={dst:=some 6,op:=_,type:=_,pos:=_,after:=_,guard:=_}) rfl (fun K b=>?_) AllReadyH.nil))
   ·
    go_simp
    refine(ar.out _ Z0).mono ?_;rintro e w5 ⟨kk,rfl,hq,A⟩;have Z1:=Ae Z0 A;try clear hSn
    have hSn:=Z1;refine Bl b (fun a=>?_);clear b K;refine Bx 5 fun K b=>?_
    go_simp
    have HG:=heap_alloc_new w5 (.cells Zq8 36);have Z2:=Ae Z1 (Ad w5 (.cells Zq8 36));clear hSn;have hSn:=Z2;refine Bl b (fun a=>?_);clear b K;refine Bx 6 fun K b=>?_;refine Az (by rfl) ?_;refine sW (Ai s p) HG ?_;have Z3:=Fj (g:=w5.heap.size) (by have:=Z1.size;omega) Z2 (Ai s p);have l:=setRow_heap _ _ _ (Ai s p) _ _ HG;clear hSn;have hSn:=Z3;refine Bl b (fun a=>?_);clear b K;refine Au 7 ?_;refine Au 8 ?_;refine wpAnyH_done Kr ?_ _;clear a hSn;go_wp2_with fail;go_meet
    case rel=>exact⟨_,kk,rfl,rfl,rfl,(by have:=Z1.size;omega),C0 l,hq,l,H1.out.step Z3⟩
   ·
    go_simp
    have Z1:=Ae Z0 (Ad I.drew (.cells Zq8 36));have HG:=heap_alloc_new I.drew (.cells Zq8 36);have hSn:=Z1;refine Bl b (fun a=>?_);clear b K;refine Bx 4 fun K b=>?_
    go_simp
    refine(ar.out _ Z1).mono ?_;rintro e w5 ⟨kk,rfl,hq,A⟩;have Z2:=Ae Z1 A;try clear hSn
    have hSn:=Z2;have HG:=Cb A;refine Bl b (fun a=>?_);clear b K;refine Bx 6 fun K b=>?_;refine Az (by rfl) ?_;refine sW (Ai s p) HG ?_;have Z3:=Fj (g:=I.drew.heap.size) (by show I.heap.size≤I.heap.size;omega) Z2 (Ai s p);have l:=setRow_heap _ _ _ (Ai s p) _ _ HG;clear hSn;have hSn:=Z3;refine Bl b (fun a=>?_);clear b K;refine Au 7 ?_;refine Au 8 ?_;refine wpAnyH_done Kr ?_ _;clear a hSn;go_wp2_with fail;go_meet
    case rel=>exact⟨_,kk,rfl,rfl,rfl,(by show w.heap.size+2<I.heap.size;omega),C0 l,hq,l,H1.out.step Z3⟩
  case rest=>
   obtain⟨g,kk,rfl,rfl,rfl,bd,av,hq,hg,hx⟩:=hcut;have H2:=Hq hx;have aa:=Hq hg;have bf:=Hq av;clear hx hg av H1 ao aq;go_upto_if 21 with fail
   go_cut [6,7] (fun x y wc=>∃ (S:Tx.St) (Q1:SP) (F:List Fr) (k:Nat),x= .pointer (some ⟨g,0,none⟩)∧y= .int .i64 (k:Int)∧X=⟨S,F.set k (P1 (Cp F k) nb r.lsn),0⟩∧k<F.length∧F.length≤100∧wc.heap[g]? =some (.cells (Ai S Q1) 36 (0,0))∧An wc S Q1 F∧Dm w.heap.size w [((Ai s p),36),((Rq9 r rA rn rc rB rm rd),88),(Zq8,36)] wc)
   case first=>
    rcases hq with⟨rfl,hq⟩|⟨k,hk,rfl,aw,ax⟩
    ·have bg:(-1:Int)<0:=by decide
     have ay:=Hq (Ik hq);clear hq a6
     go_upto_region 6 with(first
      |with_reducible refine lL H2.out.Ag Ak ?_
      |(go_at_call 148;refine(O.out _ H2.out.below).mono ?_;rintro e w4 ⟨q,rfl,az,ae⟩;have H4:=Hq (H2.out.step ae);have l:=Hq (Ac aa.out ae))
      |with_reducible refine lS (Ai xs q) l.out ?_)
     have H5:=Hq (H4.out.under (M:=g) (by simp;omega) (Fj (g:=g) (Nat.le_refl g) (show Below g w4 w4 from⟨rfl,rfl,rfl,Nat.le_refl _,fun _ _=>rfl⟩) (Ai xs q)));have a1:=Hq (setRow_heap _ _ _ (Ai xs q) _ _ l.out);have R:=Hq (fun hx=>(az hx).other (t:=36) l.out (by decide) (by decide) (by decide) (Ai xs q));generalize w4.setRow g (Ai xs q)=w5 at H5 a1 R ⊢;clear ae H4 l H2 aa O az
     try simp only[Act.put]
     by_cases m:xe=0
     ·have b4:(xe != 0)=false:=by rw[m];rfl
      have af:=Hq (R.out (.inl m));have T:=Hq (D.out ay.out m);clear m R C D d;have b5:=Hq (show ∀ W,An W xs q a7→_ from fun W H=>Gx xs q a7 P.1 xk P.2 ⟨r.page,⟨#[]⟩,0,false,0⟩ W H);have bh:=show w5.cell? ⟨(w.heap.size+1),4,none⟩=some (.int .i64 r.page)from by rw[Aa H5.out.Ah];rfl
      go_wp2_with(first
       |with_reducible refine lL a1.out Ak ?_
       |(go_at_call 146;refine(b5.out _ af.out).mono ?_;rintro e w6 ⟨U,rfl,ag,c⟩;have E:=Hq (H5.out.step c);have ah:=Hq (Ac a1.out c))
       |with_reducible refine lS (Ai xs U) ah.out ?_)
      go_meet
      case rel=>
       have hl:xk<(a7.set xk ⟨r.page,⟨#[]⟩,0,false,0⟩).length:=(by rw[List.length_set];exact P.2);refine⟨xs,U,a7.set xk ⟨r.page,⟨#[]⟩,0,false,0⟩,xk,rfl,rfl,?_,hl,by rw[List.length_set];exact P.1,setRow_heap _ _ _ (Ai xs U) _ _ ah.out,ag.other (t:=36) ah.out (by decide) (by decide) (by decide) (Ai xs U),E.out.under (M:=g) (by simp;omega) (Fj (g:=g) (Nat.le_refl g) (show Below g w6 w6 from⟨rfl,rfl,rfl,Nat.le_refl _,fun _ _=>rfl⟩) (Ai xs U))⟩;rw[Br hl,List.getElem_set_self,List.set_set];exact T.out
     ·have b4:(xe != 0)=true:=by rw[bne_iff_ne];exact m
      have T:=Hq (C.out ay.out m);clear D C
      by_cases J:xe=20
      ·have ai:=Hq (fun W=>show Cr 149 #[Af s p,Af xs q,xe] W (Af xs q) from by
        have h0:=Ga s p xs q xe W;rw[if_pos (.inr J)]at h0;exact h0)
       have af:=Hq (R.out (.inr J));have aj:=T.out.trans (d.out.trans (if_pos (.inr J)));subst aj;clear m J R d T
       go_wp2_with(first
        |with_reducible refine lL H5.out.Ag Ak ?_
        |with_reducible refine lL a1.out Ak ?_
        |(go_at_call 149;refine(ai.out _).mono ?_;rintro e w6 ⟨rfl,c⟩;have E:=Hq (H5.out.step c))
        |with_reducible refine lS (Ai xs q) E.out.Ax ?_)
       refine rT2 xe E.out.Ax Ak ?_;exact HQ.out _ q ((af.out.below c).other (t:=36) E.out.Ax (by decide) (by decide) (by decide) _) (E.out.row 2 (Ai xs q) _ rfl).below
      ·have ai:=Hq (fun W=>show Cr 149 #[Af s p,Af xs q,xe] W (Af s p) from by
        have h0:=Ga s p xs q xe W;rw[if_neg (fun h=>h.elim m J)]at h0;exact h0)
       have aj:=T.out.trans (d.out.trans (if_neg (fun h=>h.elim m J)));subst aj;clear m J R d T
       go_wp2_with(first
        |with_reducible refine lL H5.out.Ag Ak ?_
        |with_reducible refine lL a1.out Ak ?_
        |(go_at_call 149;refine(ai.out _).mono ?_;rintro e w6 ⟨rfl,c⟩;have E:=Hq (H5.out.step c))
        |with_reducible refine lS (Ai s p) E.out.Ax ?_)
       refine rT2 xe E.out.Ax Ak ?_;exact HQ.out _ p ((HP.out.below E.out.below).other (t:=36) E.out.Ax (by decide) (by decide) (by decide) _) (E.out.row 2 (Ai s p) _ rfl).below
    ·have bj:¬ (k:Int)<0:=by omega
     have b6:=Hq (Hc hk aw fun j hj b7=>ax j b7);clear aw ax C D O d;go_wp2_with fail;go_meet
     case rel=>exact⟨s,p,fs,k,rfl,rfl,by rw[a6.out k b6.out],hk,by omega,aa.out,HP.out.below H2.out.below,H2.out⟩
   case rest=>
    obtain⟨S,Q1,F,k,rfl,rfl,hX,hk,hF,hg,H,hx⟩:=hcut;subst hX;have b0:=Hq (fun W H=>Qp S Q1 F hF k hk nb r.lsn W H);have b8:=Hq H;have b9:=Hq hg;have H3:=Hq hx;generalize F.set k (P1 (Cp F k) nb r.lsn)=F2 at b0 HQ;clear H hg hx hq H2 aa HP a6 C D O d hF hk;go_upto_region 9 with fail;have hSn:wc.drew.heap[g]? =some (.cells (Ai S Q1) 36 (0,0))∧wc.drew.heap[w.heap.size+1]? =some (.cells (Rq9 r rA rn rc rB rm rd) 88 (0,0)):=⟨b9.out,H3.out.Ah⟩;have H9:=H3.out.drew;have b1:=b8.out.below (Below.refl _ wc).drew;have Hy:=Hq (fun(u:World) (a8:u.heap[g]? =some (.cells (Ai S Q1) 36 (0,0))∧u.heap[w.heap.size+1]? =some (.cells (Rq9 r rA rn rc rB rm rd) 88 (0,0)))=>(And.intro (show u.cell? ⟨w.heap.size+1,10,none⟩=some (.string r.op.new)from(by rw[Aa a8.2];rfl)) (show u.cell? ⟨w.heap.size+1,0,none⟩=some (.int .i64 r.lsn)from(by rw[Aa a8.2];rfl))));refine E4 (S:=(fun u=>u.heap[g]? =some (.cells (Ai S Q1) 36 (0,0))∧u.heap[w.heap.size+1]? =some (.cells (Rq9 r rA rn rc rB rm rd) 88 (0,0)))) (fun a=>?_);generalize wc.drew=w9 at hSn H9 b1 ⊢;refine Q3 0 Ak ?_;refine Au 1 ?_;refine Au 2 ?_;refine Au 3 ?_;refine Au 4 ?_;refine Au 6 ?_;refine Au 7 ?_;refine Bx 5 fun K b=>?_
    go_simp
    (refine(an.out _).mono ?_);rintro e w5 ⟨rfl,A⟩;have H5:=H9.step A;have ba:=b1.below A;have G:=And.intro (Ac hSn.1 A) (Ac hSn.2 A);clear hSn;have hSn:=G;clear G
    refine Bl b (fun a=>?_);clear b K;refine Bx 8 fun K b=>?_
    go_simp
    (refine(b0.out _ ba).mono ?_);rintro e w6 ⟨U,rfl,ag,c⟩;have E:=H5.step c;have G:=And.intro (Ac hSn.1 c) (Ac hSn.2 c);clear hSn;have hSn:=G;clear G
    refine Bl b (fun a=>?_);clear b K;refine Bx 9 fun K b=>?_;refine Az (by rfl) ?_;refine sW (Ai S U) E.Ax ?_;have bb:=E.row 2 (Ai S U) _ rfl;have b2:=ag.other (t:=36) E.Ax (by decide) (by decide) (by decide) (Ai S U);have G:=And.intro ((Aj _ _ (Ai S U) _ (show g≠w.heap.size+2 by omega)).trans hSn.1) ((Aj _ _ (Ai S U) _ (show w.heap.size+1≠w.heap.size+2 by omega)).trans hSn.2);clear hSn;have hSn:=G;clear G;refine Bl b (fun a=>?_);clear b K;refine Au 10 ?_;refine wpAnyH_done Kr ?_ _;clear a;go_wp2_with fail;refine rT2 () E.Ax Ak ?_;exact HQ.out _ U b2 bb.below
 ·have ak:Bj r.op.new=false:=by cases hh:Bj r.op.new with|false=>rfl|true=>exact absurd hh H
  rw[ak]at L;have HQ:=Hq (fun w' (hb:Bw w w')=>show Bk X w (.returned (.tuple #[Af s p,.int .i64 1])) w' from by
   have e:X=⟨s,fs,1⟩:=(by rw[hX];unfold Fh;rw[if_pos ak]);rw[e];exact⟨p,rfl,h.below hb,hb⟩)
  clear h hX hW H ak;generalize Bk X w=Q at HQ ⊢;go_enter Tryz.func182,Tryz.ntmps182;go_upto_region 1 with fail;have V:=Jo w (Ai s p) 36 (Rq9 r rA rn rc rB rm rd) 88 Zq8 36;obtain⟨W0,Y⟩:=Dr V;rw[← Y]at V ⊢;clear Y;have ad:=show W0.cell? ⟨(w.heap.size+1),10,none⟩=some (.string r.op.new)from by rw[Aa V.out.Ah];rfl
  go_upto_region 2 with(go_at_call 233;refine(L.out _).mono ?_;rintro e I ⟨rfl,Z⟩;have H1:=Hq (V.out.step Z))
  clear ad Z V L
  go_wp2_with(first|with_reducible refine lL H1.out.Ag Ak ?_|with_reducible refine lS (Ai s p) H1.out.Ax ?_)
  refine rT2 (.int .i64 1) H1.out.Ax Ak ?_;exact HQ.out _ (H1.out.row 2 (Ai s p) _ rfl).below
def Gj (s:Tx.St)(r:Rc.Rec):Prop:=(r.kind=2∨r.kind=3∨r.kind=8)∧Gh s r.page∧1≤r.lsn∧r.lsn<1099511627776
instance (s:Tx.St) (r:Rc.Rec):Decidable (Gj s r):=by unfold Gj;exact inferInstance
noncomputable def Gr (s:Tx.St) (fs:List Fr) (r:Rc.Rec) (D:ByteArray→ByteArray×Int):Px:=
 if ¬ Gj s r then⟨s,fs,1⟩else
 if r.kind=8 then Fh s fs r else
 if ¬ (Aq s fs r.page).1.e=0 then(Aq s fs r.page).1 else
 if r.lsn≤(((Ab (Cp (Aq s fs r.page).1.fs (Aq s fs r.page).2).bytes).lsn:Nat):Int)then(Aq s fs r.page).1 else
 if ¬ (D (Cp (Aq s fs r.page).1.fs (Aq s fs r.page).2).bytes).2=0 then⟨s,fs,(D (Cp (Aq s fs r.page).1.fs (Aq s fs r.page).2).bytes).2⟩else
 ⟨(Aq s fs r.page).1.s,(Aq s fs r.page).1.fs.set (Aq s fs r.page).2 (P1 (Cp (Aq s fs r.page).1.fs (Aq s fs r.page).2) (Cj (D (Cp (Aq s fs r.page).1.fs (Aq s fs r.page).2).bytes).1 r.lsn) r.lsn),0⟩
theorem dF {N n B:Nat}(s:Tx.St)(p:SP)(fs:List Fr)(hW:Wf N n B s fs)(hB:B≤1000000)(r:Rc.Rec)(rA:Option Addr)(rn rc:Nat)(rB:Option Addr)(rm rd:Nat)(bq:r.op.new.size≤140737488355328)(D:ByteArray→ByteArray×Int)(hD:∀ b,(D b).2=0→Bj (D b).1=true)(w:World)
 (b3:∀ (b:ByteArray) W,b.size≤512→Bw w W→Cr 178 #[b,.agg #[r.op.kind,r.op.slot,r.op.Bd,r.op.new]] W (Gm (D b))) (h:An w s p fs):
 Cq 111 #[Af s p,.agg (Rq9 r rA rn rc rB rm rd)] w (Bk (Gr s fs r D) w):=by
 obtain⟨X,hX⟩:=ex (Gr s fs r D);rw[← hX];have b4:=hW.zp;have k:=Hq (fun W=>L5 s p n hW.zp r.page W);have aq:=Hq (fun W (hb:Bw w W)=>Zt s p fs hW hB r rA rn rc rB rm rd bq W (h.below hb));have V:=Hq (fun W (hb:Bw w W)=>K3 s p fs hW hB r.page W (h.below hb));have ar:=Hq (fun W (hb:Bw w W) (e:Int)=>show X=⟨s,fs,e⟩→Bk X w (.returned (.tuple #[Af s p,e])) W from fun he=>by rw[he];exact⟨p,rfl,h.below hb,hb⟩);have Z:=Hq (fun(Y:Px) (he:X=Y) w' (q:SP) (hp:An w' Y.s q Y.fs) (hb:Bw w w')=>show Bk X w (.returned (.tuple #[Af Y.s q,Y.e])) w' from by rw[he];exact⟨q,rfl,hp,hb⟩);have m:=Hq (show Gj s r↔(r.kind=2∨r.kind=3∨r.kind=8)∧(0≤r.page∧r.page<(n:Int))∧1≤r.lsn∧r.lsn<1099511627776 from by unfold Gj Gh;rw[b4]);have au:=Hq (fun(l:¬ Gj s r)=>show X=⟨s,fs,1⟩from by rw[hX];unfold Gr;rw[if_pos l]);have a1:=Hq (fun(hy:Gj s r) (h8:r.kind=8)=>show X=Fh s fs r from by rw[hX];unfold Gr;rw[if_neg (fun l=>l hy),if_pos h8]);have H:=Hq (fun(hy:Gj s r) (h8:¬ r.kind=8)=>show X=if ¬ (Aq s fs r.page).1.e=0 then(Aq s fs r.page).1 else
  if r.lsn≤(((Ab (Cp (Aq s fs r.page).1.fs (Aq s fs r.page).2).bytes).lsn:Nat):Int)then(Aq s fs r.page).1 else
  if ¬ (D (Cp (Aq s fs r.page).1.fs (Aq s fs r.page).2).bytes).2=0 then⟨s,fs,(D (Cp (Aq s fs r.page).1.fs (Aq s fs r.page).2).bytes).2⟩else
  ⟨(Aq s fs r.page).1.s,(Aq s fs r.page).1.fs.set (Aq s fs r.page).2 (P1 (Cp (Aq s fs r.page).1.fs (Aq s fs r.page).2) (Cj (D (Cp (Aq s fs r.page).1.fs (Aq s fs r.page).2).bytes).1 r.lsn) r.lsn),0⟩from by rw[hX];unfold Gr;rw[if_neg (fun l=>l hy),if_neg h8])
 have aa:=hW.held r.page;have br:=hW.nf;have b5:=Hq b3;have HD:=Hq hD;clear hX hW h b4 b3 hD;generalize Bk X w=Q at ar Z ⊢;generalize Fh s fs r=im at aq a1;generalize Gj s r=ok at m au a1 H;generalize Aq s fs r.page=rr at V H aa;obtain⟨⟨xs,G,xe⟩,xk⟩:=rr;simp only at V H aa;have a6:xk<G.length:=by omega
 have bs:G.length≤100:=by omega
 rw[Br a6]at H;have bt:=Hq aa.1;obtain⟨f,ad⟩:=ex (G[xk]);rw[← ad]at H;have b6:=Hq ad;have an:f.bytes.size≤512:=by rw[ad];exact(bt.out.fr xk a6).sz
 clear ad aa br;go_enter Tryz.func111,Tryz.ntmps111;go_upto_region 1 with fail;have o:=Jo w (Ai s p) 36 (Rq9 r rA rn rc rB rm rd) 88 Zq8 36;obtain⟨W0,b7⟩:=Dr o;rw[← b7]at o ⊢;clear b7;have P:=show W0.cell? ⟨(w.heap.size+1),3,none⟩=some (.int .i64 r.kind)from by rw[Aa o.out.Ah];rfl
 have av:=show W0.cell? ⟨(w.heap.size+1),4,none⟩=some (.int .i64 r.page)from by rw[Aa o.out.Ah];rfl
 have bu:=show W0.cell? ⟨(w.heap.size+1),0,none⟩=some (.int .i64 r.lsn)from by rw[Aa o.out.Ah];rfl
 go_cut [39] (fun x wc=>∃ bb:Bool,x= .bool bb∧(bb=true↔¬ ok)∧Bw W0 wc)
 case first=>
  by_cases J:r.kind=2∨r.kind=3∨r.kind=8
  ·have aw:=Hq J
   rcases J with hk|hk|hk
   ·rw[hk]at P
    clear hk
    by_cases d:0≤r.page∧r.page<(n:Int)
    ·rw[decide_eq_true d]at k
     by_cases b8:r.lsn<1
     ·have a:true=true↔¬ ok:=⟨fun _ l=>by have:=m.out.1 l;omega,fun _=>rfl⟩
      have j:=Hq a;clear a d
      go_wp2_with(first|with_reducible refine lL o.out.Ag Ak ?_|(go_at_call 145;refine(k.out _).mono ?_;rintro e A ⟨rfl,c⟩;have C:=show A.cell? ⟨(w.heap.size+1),0,none⟩=some (.int .i64 r.lsn)from(by rw[Aa (Ac o.out.Ah c)];rfl)))
      go_meet
      case rel=>exact⟨true,by first|rfl|(rw[decide_eq_false (show ¬ r.lsn<1 by omega),decide_eq_false (show ¬ (1099511627776:Int)≤r.lsn by omega)];rfl),by simpa using j.out,c⟩
     ·by_cases b9:(1099511627776:Int)≤r.lsn
      ·have a:true=true↔¬ ok:=⟨fun _ l=>by have:=m.out.1 l;omega,fun _=>rfl⟩
       have j:=Hq a;clear a d
       go_wp2_with(first|with_reducible refine lL o.out.Ag Ak ?_|(go_at_call 145;refine(k.out _).mono ?_;rintro e A ⟨rfl,c⟩;have C:=show A.cell? ⟨(w.heap.size+1),0,none⟩=some (.int .i64 r.lsn)from(by rw[Aa (Ac o.out.Ah c)];rfl)))
       go_meet
       case rel=>exact⟨true,by first|rfl|(rw[decide_eq_false (show ¬ r.lsn<1 by omega),decide_eq_false (show ¬ (1099511627776:Int)≤r.lsn by omega)];rfl),by simpa using j.out,c⟩
      ·have a:false=true↔¬ ok:=⟨fun h=>absurd h (by decide),fun l=>absurd (m.out.2 ⟨aw.out,d,by omega,by omega⟩) l⟩
       have j:=Hq a;clear a d
       go_wp2_with(first|with_reducible refine lL o.out.Ag Ak ?_|(go_at_call 145;refine(k.out _).mono ?_;rintro e A ⟨rfl,c⟩;have C:=show A.cell? ⟨(w.heap.size+1),0,none⟩=some (.int .i64 r.lsn)from(by rw[Aa (Ac o.out.Ah c)];rfl)))
       go_meet
       case rel=>exact⟨false,by first|rfl|(rw[decide_eq_false (show ¬ r.lsn<1 by omega),decide_eq_false (show ¬ (1099511627776:Int)≤r.lsn by omega)];rfl),by simpa using j.out,c⟩
    ·rw[decide_eq_false d]at k
     have a:true=true↔¬ ok:=⟨fun _ l=>absurd (m.out.1 l).2.1 d,fun _=>rfl⟩;have j:=Hq a;clear a d
     go_wp2_with(first|with_reducible refine lL o.out.Ag Ak ?_|(go_at_call 145;refine(k.out _).mono ?_;rintro e A ⟨rfl,c⟩;have C:=show A.cell? ⟨(w.heap.size+1),0,none⟩=some (.int .i64 r.lsn)from(by rw[Aa (Ac o.out.Ah c)];rfl)))
     go_meet
     case rel=>exact⟨true,by first|rfl|(rw[decide_eq_false (show ¬ r.lsn<1 by omega),decide_eq_false (show ¬ (1099511627776:Int)≤r.lsn by omega)];rfl),by simpa using j.out,c⟩
   ·rw[hk]at P
    clear hk
    by_cases d:0≤r.page∧r.page<(n:Int)
    ·rw[decide_eq_true d]at k
     by_cases b8:r.lsn<1
     ·have a:true=true↔¬ ok:=⟨fun _ l=>by have:=m.out.1 l;omega,fun _=>rfl⟩
      have j:=Hq a;clear a d
      go_wp2_with(first|with_reducible refine lL o.out.Ag Ak ?_|(go_at_call 145;refine(k.out _).mono ?_;rintro e A ⟨rfl,c⟩;have C:=show A.cell? ⟨(w.heap.size+1),0,none⟩=some (.int .i64 r.lsn)from(by rw[Aa (Ac o.out.Ah c)];rfl)))
      go_meet
      case rel=>exact⟨true,by first|rfl|(rw[decide_eq_false (show ¬ r.lsn<1 by omega),decide_eq_false (show ¬ (1099511627776:Int)≤r.lsn by omega)];rfl),by simpa using j.out,c⟩
     ·by_cases b9:(1099511627776:Int)≤r.lsn
      ·have a:true=true↔¬ ok:=⟨fun _ l=>by have:=m.out.1 l;omega,fun _=>rfl⟩
       have j:=Hq a;clear a d
       go_wp2_with(first|with_reducible refine lL o.out.Ag Ak ?_|(go_at_call 145;refine(k.out _).mono ?_;rintro e A ⟨rfl,c⟩;have C:=show A.cell? ⟨(w.heap.size+1),0,none⟩=some (.int .i64 r.lsn)from(by rw[Aa (Ac o.out.Ah c)];rfl)))
       go_meet
       case rel=>exact⟨true,by first|rfl|(rw[decide_eq_false (show ¬ r.lsn<1 by omega),decide_eq_false (show ¬ (1099511627776:Int)≤r.lsn by omega)];rfl),by simpa using j.out,c⟩
      ·have a:false=true↔¬ ok:=⟨fun h=>absurd h (by decide),fun l=>absurd (m.out.2 ⟨aw.out,d,by omega,by omega⟩) l⟩
       have j:=Hq a;clear a d
       go_wp2_with(first|with_reducible refine lL o.out.Ag Ak ?_|(go_at_call 145;refine(k.out _).mono ?_;rintro e A ⟨rfl,c⟩;have C:=show A.cell? ⟨(w.heap.size+1),0,none⟩=some (.int .i64 r.lsn)from(by rw[Aa (Ac o.out.Ah c)];rfl)))
       go_meet
       case rel=>exact⟨false,by first|rfl|(rw[decide_eq_false (show ¬ r.lsn<1 by omega),decide_eq_false (show ¬ (1099511627776:Int)≤r.lsn by omega)];rfl),by simpa using j.out,c⟩
    ·rw[decide_eq_false d]at k
     have a:true=true↔¬ ok:=⟨fun _ l=>absurd (m.out.1 l).2.1 d,fun _=>rfl⟩;have j:=Hq a;clear a d
     go_wp2_with(first|with_reducible refine lL o.out.Ag Ak ?_|(go_at_call 145;refine(k.out _).mono ?_;rintro e A ⟨rfl,c⟩;have C:=show A.cell? ⟨(w.heap.size+1),0,none⟩=some (.int .i64 r.lsn)from(by rw[Aa (Ac o.out.Ah c)];rfl)))
     go_meet
     case rel=>exact⟨true,by first|rfl|(rw[decide_eq_false (show ¬ r.lsn<1 by omega),decide_eq_false (show ¬ (1099511627776:Int)≤r.lsn by omega)];rfl),by simpa using j.out,c⟩
   ·rw[hk]at P
    clear hk
    by_cases d:0≤r.page∧r.page<(n:Int)
    ·rw[decide_eq_true d]at k
     by_cases b8:r.lsn<1
     ·have a:true=true↔¬ ok:=⟨fun _ l=>by have:=m.out.1 l;omega,fun _=>rfl⟩
      have j:=Hq a;clear a d
      go_wp2_with(first|with_reducible refine lL o.out.Ag Ak ?_|(go_at_call 145;refine(k.out _).mono ?_;rintro e A ⟨rfl,c⟩;have C:=show A.cell? ⟨(w.heap.size+1),0,none⟩=some (.int .i64 r.lsn)from(by rw[Aa (Ac o.out.Ah c)];rfl)))
      go_meet
      case rel=>exact⟨true,by first|rfl|(rw[decide_eq_false (show ¬ r.lsn<1 by omega),decide_eq_false (show ¬ (1099511627776:Int)≤r.lsn by omega)];rfl),by simpa using j.out,c⟩
     ·by_cases b9:(1099511627776:Int)≤r.lsn
      ·have a:true=true↔¬ ok:=⟨fun _ l=>by have:=m.out.1 l;omega,fun _=>rfl⟩
       have j:=Hq a;clear a d
       go_wp2_with(first|with_reducible refine lL o.out.Ag Ak ?_|(go_at_call 145;refine(k.out _).mono ?_;rintro e A ⟨rfl,c⟩;have C:=show A.cell? ⟨(w.heap.size+1),0,none⟩=some (.int .i64 r.lsn)from(by rw[Aa (Ac o.out.Ah c)];rfl)))
       go_meet
       case rel=>exact⟨true,by first|rfl|(rw[decide_eq_false (show ¬ r.lsn<1 by omega),decide_eq_false (show ¬ (1099511627776:Int)≤r.lsn by omega)];rfl),by simpa using j.out,c⟩
      ·have a:false=true↔¬ ok:=⟨fun h=>absurd h (by decide),fun l=>absurd (m.out.2 ⟨aw.out,d,by omega,by omega⟩) l⟩
       have j:=Hq a;clear a d
       go_wp2_with(first|with_reducible refine lL o.out.Ag Ak ?_|(go_at_call 145;refine(k.out _).mono ?_;rintro e A ⟨rfl,c⟩;have C:=show A.cell? ⟨(w.heap.size+1),0,none⟩=some (.int .i64 r.lsn)from(by rw[Aa (Ac o.out.Ah c)];rfl)))
       go_meet
       case rel=>exact⟨false,by first|rfl|(rw[decide_eq_false (show ¬ r.lsn<1 by omega),decide_eq_false (show ¬ (1099511627776:Int)≤r.lsn by omega)];rfl),by simpa using j.out,c⟩
    ·rw[decide_eq_false d]at k
     have a:true=true↔¬ ok:=⟨fun _ l=>absurd (m.out.1 l).2.1 d,fun _=>rfl⟩;have j:=Hq a;clear a d
     go_wp2_with(first|with_reducible refine lL o.out.Ag Ak ?_|(go_at_call 145;refine(k.out _).mono ?_;rintro e A ⟨rfl,c⟩;have C:=show A.cell? ⟨(w.heap.size+1),0,none⟩=some (.int .i64 r.lsn)from(by rw[Aa (Ac o.out.Ah c)];rfl)))
     go_meet
     case rel=>exact⟨true,by first|rfl|(rw[decide_eq_false (show ¬ r.lsn<1 by omega),decide_eq_false (show ¬ (1099511627776:Int)≤r.lsn by omega)];rfl),by simpa using j.out,c⟩
  ·have a:true=true↔¬ ok:=⟨fun _ l=>absurd (m.out.1 l).1 J,fun _=>rfl⟩
   have j:=Hq a;have cj:(r.kind != 2)=true:=(by rw[bne_iff_ne];exact fun e=>J (by omega));have ck:(r.kind != 3)=true:=(by rw[bne_iff_ne];exact fun e=>J (by omega));have cm:(r.kind != 8)=true:=(by rw[bne_iff_ne];exact fun e=>J (by omega));clear a J;go_wp2_with fail;go_meet
   case rel=>exact⟨true,by first|rfl|(rw[decide_eq_false (show ¬ r.lsn<1 by omega),decide_eq_false (show ¬ (1099511627776:Int)≤r.lsn by omega)];rfl),by simpa using j.out,Below.refl _ _⟩
 case rest=>
  obtain⟨bb,rfl,R,ba⟩:=hcut;obtain⟨A,rfl⟩:=ex wc;have H1:=Hq (o.out.step ba);clear P av bu ba k o m
  cases bb with
  |true=>
   have y:=Hq (au.out (R.1 rfl));clear R
   go_wp2_with(first|with_reducible refine lL H1.out.Ag Ak ?_|with_reducible refine lS (Ai s p) H1.out.Ax ?_)
   refine rT2 (.int .i64 1) H1.out.Ax Ak ?_;exact ar.out _ (H1.out.row 2 (Ai s p) _ rfl).below 1 y.out
  |false=>
   have ax:=Hq (show ok from Classical.byContradiction fun l=>absurd (R.2 l) (by decide));have P:=show A.cell? ⟨(w.heap.size+1),3,none⟩=some (.int .i64 r.kind)from(by rw[Aa H1.out.Ah];rfl);clear R au
   by_cases h8:r.kind=8
   ·have bc:(r.kind==8)=true:=by rw[h8];rfl
    have y:=Hq (a1.out ax.out h8);clear h8 H a1 V
    go_wp2_with(first
     |with_reducible refine lL H1.out.Ag Ak ?_
     |with_reducible refine lL H1.out.Ah Ds ?_
     |(go_at_call 182;refine(aq.out _ H1.out.below).mono ?_;rintro e w2 ⟨q,rfl,bw,bx⟩;have H2:=Hq (H1.out.step bx))
     |with_reducible refine lS (Ai im.s q) H2.out.Ax ?_)
    refine rT2 (im.e) H2.out.Ax Ak ?_;exact Z.out im y.out _ q (bw.other (t:=36) H2.out.Ax (by decide) (by decide) (by decide) _) (H2.out.row 2 (Ai im.s q) _ rfl).below
   ·have bc:(r.kind==8)=false:=beq_eq_false_iff_ne.2 h8
    have ae:=Hq (H.out ax.out h8);have av:=show A.cell? ⟨(w.heap.size+1),4,none⟩=some (.int .i64 r.page)from(by rw[Aa H1.out.Ah];rfl);clear h8 H a1 aq ax
    go_upto_region 6 with(first
     |with_reducible refine lL H1.out.Ag Ak ?_
     |(go_at_call 71;refine(V.out _ H1.out.below).mono ?_;rintro e w4 ⟨q,rfl,bf,af⟩)
     |with_reducible refine sN (Ai xs q) ?_)
    have L:=af.trans ((Ad w4 (.cells (Ai xs q) 36)).mono af.size);have H5:=Hq (H1.out.step L);have a7:=Hq (heap_alloc_new w4 (.cells (Ai xs q) 36));have T:=Hq (bf.below (Ad w4 (.cells (Ai xs q) 36)));have bz:(w.heap.size+2)<w4.heap.size:=Nat.lt_of_lt_of_le (H1.out.lt (i:=2) (by simp)) af.size;obtain⟨g,hg⟩:=ex w4.heap.size;obtain⟨w5,ag⟩:=ex (w4.alloc (.cells (Ai xs q) 36));rw[← hg,← ag]at a7;rw[← ag]at H5 T;rw[← ag,← hg];rw[← hg]at bz;clear ag hg af L bf H1 V av P bc
    try simp only[Act.put]
    by_cases a8:xe=0
    case neg=>
     have bg:(xe != 0)=true:=(by rw[bne_iff_ne];exact a8);have y:=Hq (show X=⟨xs,G,xe⟩from by rw[ae.out,if_pos a8]);clear a8 ae
     go_wp2_with(first|with_reducible refine lL a7.out Ak ?_|with_reducible refine lS (Ai xs q) H5.out.Ax ?_)
     refine rT2 xe H5.out.Ax Ak ?_;exact Z.out _ y.out _ q (T.out.other (t:=36) H5.out.Ax (by decide) (by decide) (by decide) _) (H5.out.row 2 (Ai xs q) _ rfl).below
    have bg:(xe != 0)=false:=(by rw[a8];rfl);subst a8;have I:=Hq (ae.out.trans (if_neg (fun l=>l rfl)));clear ae;have cn:(0:Int)≤(xk:Int):=(by omega);have cp:(xk:Int)<(G.length:Int):=(by omega);obtain⟨bh,ao,bj,c6,c7,M⟩:=Bi Cc T.out.fr a6;rw[← b6.out]at M;obtain⟨fb,ay⟩:=ex f.bytes;rw[← ay]at I an;have c8:=show w5.cell? ⟨bh,ao+xk*5+1,none⟩=some (.string fb)from(by rw[ay];exact M 1 _ rfl);have bk:=show w5.cell? ⟨g,11,none⟩=some (.slice (some ⟨bh,ao,none⟩) G.length q.fc)from(by rw[Aa a7.out,← bj,← T.out.fn];rfl);clear M c6 c7 bj ay;go_upto_region 9 with fail;clear c8 bk bg;have az:=Hq (fun W=>Vr fb (by omega) W);have ah:=Hq (fun W hb=>b5.out fb W an hb);have ai:=Hq (HD.out fb);generalize (Ab fb).lsn=ln at az I;generalize D fb=bd at ah ai I;obtain⟨b,be⟩:=bd;simp only at ah ai I;clear b5 HD;have bl:=show w5.cell? ⟨(w.heap.size+1),0,none⟩=some (.int .i64 r.lsn)from by rw[Aa H5.out.Ah];rfl
    go_cut [72] (fun x wc=>x= .bool (decide (r.lsn≤((ln:Nat):Int)))∧Bw w5 wc)
    case first=>
     have hSn:w5.drew.heap[w.heap.size+1]? =some (.cells (Rq9 r rA rn rc rB rm rd) 88 (0,0)):=H5.out.Ah;have Z0:Bw w5 w5.drew:=(Below.refl _ w5).drew;have Hy:=Hq (fun(u:World) (b0:u.heap[w.heap.size+1]? =some (.cells (Rq9 r rA rn rc rB rm rd) 88 (0,0)))=>(show u.cell? ⟨w.heap.size+1,0,none⟩=some (.int .i64 r.lsn)from(by rw[Aa b0];rfl)));refine E4 (S:=(fun u=>u.heap[w.heap.size+1]? =some (.cells (Rq9 r rA rn rc rB rm rd) 88 (0,0)))) (fun v=>?_);generalize w5.drew=w9 at hSn Z0 ⊢;refine Au 0 ?_;refine Au 2 ?_;refine Au 3 ?_;refine Bx 1 fun K hK=>?_
     go_simp
     (refine(az.out _).mono ?_);rintro e w6 ⟨rfl,E⟩;have Z1:=Ae Z0 E;have F:=Ac hSn E;clear hSn;have hSn:=F;clear F
     refine Bl hK (fun v=>?_);clear hK K;refine Au 4 ?_;refine wpAnyH_done Kr ?_ _;clear v;go_wp2_with fail;go_meet
     case rel=>exact⟨rfl,Z1⟩
    case rest=>
     obtain⟨rfl,E⟩:=hcut;obtain⟨w6,rfl⟩:=ex wc;have H6:=Hq (H5.out.step E);have b1:=Hq (Ac a7.out E);have b2:=Hq (T.out.below E);clear bl E H5 a7 T az
     by_cases U:r.lsn≤((ln:Nat):Int)
     ·rw[decide_eq_true U]
      have y:=Hq (I.out.trans (if_pos U));clear U I
      go_wp2_with(first|with_reducible refine lL b1.out Ak ?_|with_reducible refine lS (Ai xs q) H6.out.Ax ?_)
      refine rT2 () H6.out.Ax Ak ?_;exact Z.out _ y.out _ q (b2.out.other (t:=36) H6.out.Ax (by decide) (by decide) (by decide) _) (H6.out.row 2 (Ai xs q) _ rfl).below
     ·rw[decide_eq_false U]
      have aj:=Hq (I.out.trans (if_neg U));clear U I;have bm:=Hq (ah.out w6 H6.out.below);clear ah
      go_upto_region 12 with(first
       |with_reducible refine lP #[r.op.kind,r.op.slot,r.op.Bd,r.op.new] H6.out.Ah gF ?_
       |(go_at_call 178;(refine bm.out.mono ?_);rintro e w7 ⟨rfl,ak⟩))
      have H7:=Hq (H6.out.step ak);have ca:=Hq (Ac b1.out ak);have cb:=Hq (b2.out.below ak);clear ak H6 b1 b2 bm
      by_cases O:be=0
      case neg=>
       have R:(be != 0)=true:=(by rw[bne_iff_ne];exact O);have y:=Hq (show X=⟨s,fs,be⟩from by rw[aj.out,if_pos O]);clear O aj
       go_wp2_with(first|with_reducible refine lL H7.out.Ag Ak ?_|with_reducible refine lS (Ai s p) H7.out.Ax ?_)
       refine rT2 be H7.out.Ax Ak ?_;exact ar.out _ (H7.out.row 2 (Ai s p) _ rfl).below be y.out
      have R:(be != 0)=false:=(by rw[O];rfl);have cc:=Hq (ai.out O);have y:=Hq (aj.out.trans (if_neg (fun l=>l O)));clear aj ai O;have bn:=Hq (fun W=>Jg b r.lsn (by have:=Fa cc.out;omega) W);have al:=Hq (fun W (hp:An W xs q G)=>Qp xs q G bs xk a6 (Cj b r.lsn) r.lsn W hp);rw[Br a6,← b6.out]at al;generalize Cj b r.lsn=z at bn al y;generalize G.set xk (P1 f z r.lsn)=F2 at al y;go_upto_region 14 with fail;have hSn:w7.drew.heap[g]? =some (.cells (Ai xs q) 36 (0,0))∧w7.drew.heap[w.heap.size+1]? =some (.cells (Rq9 r rA rn rc rB rm rd) 88 (0,0)):=⟨ca.out,H7.out.Ah⟩;have H9:=H7.out.drew;have bo:=cb.out.below (Below.refl _ w7).drew;have Hy:=Hq (fun(u:World) (b0:u.heap[g]? =some (.cells (Ai xs q) 36 (0,0))∧u.heap[w.heap.size+1]? =some (.cells (Rq9 r rA rn rc rB rm rd) 88 (0,0)))=>(show u.cell? ⟨w.heap.size+1,0,none⟩=some (.int .i64 r.lsn)from(by rw[Aa b0.2];rfl)));refine E4 (S:=(fun u=>u.heap[g]? =some (.cells (Ai xs q) 36 (0,0))∧u.heap[w.heap.size+1]? =some (.cells (Rq9 r rA rn rc rB rm rd) 88 (0,0)))) (fun v=>?_);generalize w7.drew=w9 at hSn H9 bo ⊢;refine Q3 0 Ak ?_;refine Au 1 ?_;refine Au 2 ?_;refine Au 3 ?_;refine Au 4 ?_;refine Au 6 ?_;refine Au 7 ?_;refine Bx 5 fun K hK=>?_
      go_simp
      (refine(bn.out _).mono ?_);rintro e w5 ⟨rfl,L⟩;have cd:=H9.step L;have cf:=bo.below L;have F:=And.intro (Ac hSn.1 L) (Ac hSn.2 L);clear hSn;have hSn:=F;clear F
      refine Bl hK (fun v=>?_);clear hK K;refine Bx 8 fun K hK=>?_
      go_simp
      (refine(al.out _ cf).mono ?_);rintro e w6 ⟨q6,rfl,cg,E⟩;have H8:=cd.step E;have F:=And.intro (Ac hSn.1 E) (Ac hSn.2 E);clear hSn;have hSn:=F;clear F
      refine Bl hK (fun v=>?_);clear hK K;refine Bx 9 fun K hK=>?_;refine Az (by rfl) ?_;refine sW (Ai xs q6) H8.Ax ?_;have ch:=H8.row 2 (Ai xs q6) _ rfl;have bp:=cg.other (t:=36) H8.Ax (by decide) (by decide) (by decide) (Ai xs q6);have F:=And.intro ((Aj _ _ (Ai xs q6) _ (show g≠w.heap.size+2 by omega)).trans hSn.1) ((Aj _ _ (Ai xs q6) _ (show w.heap.size+1≠w.heap.size+2 by omega)).trans hSn.2);clear hSn;have hSn:=F;clear F;refine Bl hK (fun v=>?_);clear hK K;refine Au 10 ?_;refine wpAnyH_done Kr ?_ _;clear v;go_wp2_with fail;refine rT2 () H8.Ax Ak ?_;exact Z.out _ y.out _ q6 bp ch.below
theorem Tr.oK {n B:Nat}{f:Fr}(c:0≤f.page∧f.page<(n:Int))(d:0≤f.pins∧f.pins≤(B:Int))(e:Rc.num f.rc){b:ByteArray}(a:Bj b=true)(g:b.size≤512){l:Int}(h:Rc.num l):Tr n B (P1 f b l):=by
 refine⟨g,d,?_,c,fun _=>a,fun _=>Rg a⟩;unfold P1;simp only
 split
 ·exact h
 ·exact e
theorem Rj {l:Int}(h:1≤l∧l<1099511627776):Rc.num l:=⟨by omega,by omega⟩
theorem Wf.image {N n B:Nat}{s:Tx.St}{fs:List Fr}(h:Wf N n B s fs)(r:Rc.Rec)(q:Gh s r.page)(m:1≤r.lsn∧r.lsn<1099511627776):Wf N n B (Fh s fs r).s (Fh s fs r).fs∧(Fh s fs r).fs.length=fs.length:=by
 have y:=h.zp;have c:0≤r.page∧r.page<(n:Int):=by unfold Gh at q;omega
 unfold Fh
 split
 ·exact⟨h,rfl⟩
 ·rename_i d
  have a:Bj r.op.new=true:=by
   cases t:Bj r.op.new with
   |true=>rfl
   |false=>exact absurd t d
  have o:=nH a;have b:(J6 r.op.new).size≤512:=Oq _ _
  split
  ·rename_i k e
   obtain⟨g,u,v⟩:=Ns e;rw[Br g];have hF:=h.fr k g;exact⟨h.set g (Tr.oK hF.pg hF.pn hF.rc o b (Rj m)) rfl fun _=>u,List.length_set⟩
  ·rename_i e
   obtain⟨p,i,z⟩:=h.room
   split
   ·refine⟨p.put _ (Tr.oK (f:=⟨r.page,⟨#[]⟩,0,false,0⟩) c ⟨Int.le_refl _,by show(0:Int)≤(B:Int);omega⟩ Jn o b (Rj m)) (fun _ j w _ l=>fun x=>(Sy h).none_ i (nI e) j w l x.symm),by simp only;rw[List.length_set];exact i⟩
   ·exact h.back p i
theorem Wf.oK {N n B:Nat}{s:Tx.St}{fs:List Fr}(h:Wf N n B s fs)(r:Rc.Rec)(D:ByteArray→ByteArray×Int)(l:∀ q,(D q).2=0→Bj (D q).1=true):Wf N n B (Gr s fs r D).s (Gr s fs r D).fs∧(Gr s fs r D).fs.length=fs.length:=by
 unfold Gr
 split
 ·exact⟨h,rfl⟩
 ·rename_i e
  obtain⟨_,m,f,g⟩:Gj s r:=Classical.byContradiction fun a=>e a
  split
  ·exact h.image r m ⟨f,g⟩
  ·obtain⟨b,c,o,i⟩:=h.held r.page
   generalize Aq s fs r.page=x at b c o i ⊢
   split
   ·exact⟨b,c⟩
   ·rename_i p
    obtain⟨_,j,_⟩:=i (Classical.byContradiction fun a=>p a);have d:x.2<x.1.fs.length:=(by omega);rw[Br d]at j
    split
    ·exact⟨b,c⟩
    ·split
     ·exact⟨h,rfl⟩
     ·rename_i k
      rw[Br d]at k ⊢;have hF:=b.fr x.2 d;have t:=Wg (l _ (Classical.byContradiction fun a=>k a)) (Rj ⟨f,g⟩);exact⟨b.set d (Tr.oK hF.pg hF.pn hF.rc t (Oq _ _) (Rj ⟨f,g⟩)) rfl fun _=>j,by simp only;rw[List.length_set];exact c⟩
end Go.Proofs.YtmldoihahndcgaaGreatDoor
