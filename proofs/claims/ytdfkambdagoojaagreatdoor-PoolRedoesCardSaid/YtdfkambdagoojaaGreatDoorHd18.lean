import Derived.Test.YtdfkambdagoojaaGreatDoorHd00
import Derived.Test.YtdfkambdagoojaaGreatDoorHd09
import Derived.Test.YtdfkambdagoojaaGreatDoorHd02
set_option maxRecDepth 100000
set_option maxHeartbeats 16000000
set_option linter.unusedSimpArgs false
namespace Go.Proofs.YtdfkambdagoojaaGreatDoor
open Go.RowKit Sc
def V9 (f:Fr)(b:ByteArray)(lsn:Int):Fr:=⟨f.Ab,b,f.pins,true,if f.rc=0 then lsn else f.rc⟩
theorem Sx (s:Tx.St)(p:SP)(fs:List Fr)(Y:fs.length≤100)(k:Nat)(Z:k<fs.length)(b:ByteArray)(a:Int)(w:World)(h:Ba w s p fs):
 Cq 70 #[Ar s p,.int .i64 (k:Int),b,a] w fun e w'=>∃ q:SP,e= .returned (Ar s q)∧Ba w' s q (fs.set k (V9 (Cz fs k) b a))∧Bw w w':=by
 rw[Bh Z];have m:=Hq (fun f W hp=>Ht s p fs Y k Z f W hp);have a1:=Hq h.fn;have aj:(0:Int)≤(k:Int):=by omega
 have ak:(k:Int)<(fs.length:Int):=by omega
 obtain⟨f,v⟩:=ex (fs[k]);rw[← v];have J:=h.ft.lt;have L:=Hq v;clear v;go_enter Tryz.func70,Tryz.ntmps70;go_upto_region 1 with fail;have x:=O2 w (Au s p) 36 #[(),(),(),'s',(),false,(),(),(),(),"",'s',(),'s',()] 36;obtain⟨y,N⟩:=Gz x;rw[← N]at x ⊢;clear N;have z:=Hq (h.below x.out.below);obtain⟨b1,off,O,a6,a7,c⟩:=Cv E3 z.out.fr Z;rw[← L.out]at c;have hc:=show y.cell? ⟨w.heap.size,11,none⟩=some (.slice (some ⟨b1,off,none⟩) fs.length p.fc)from by rw[Aa x.out.Am,← O,← a1.out];rfl
 have P:=Hq (show y.rangeAt b1 (off+k*5) (Me f)from c);clear c a6 a7 h O L
 go_upto_region 2 with(first
  |(refine Dr Kr fun K hK=>wp_load_mid 95 (.tmp 14) rfl b1 (off+k*5) rfl (Me f) _ P.out J5 Kr Kr (hK _ _ ?_))
  |with_reducible refine sN (Gc f) ?_)
 have A:=Ag y (.cells (Gc f) 95);have H5:=Hq (x.out.step A);have j:=Hq (heap_alloc_new y (.cells (Gc f) 95));have B:=Hq (z.out.below A);have a8:w.heap.size+1<y.heap.size:=x.out.lt (i:=1) (by simp);obtain⟨g,V⟩:=ex y.heap.size;obtain⟨u,n⟩:=ex (y.alloc (.cells (Gc f) 95));rw[← V,← n]at j;rw[← n]at H5 B;rw[← n,← V];rw[← V]at a8;have C:=Hq (show ∀ X,p.F=some X→X.block≠g from fun X e=>by have:=J X e;omega);clear n V A P x z hc J
 try simp only[Act.put]
 have l:=Hq (Cb 1 j.out (.string b));have aa:=show u.cell? ⟨g,1,none⟩=some (.string f.bytes)from(by rw[Aa j.out];rfl);have ae:=Aj j.out 1;have af:=show(u.setCell ⟨g,1,none⟩ (.string b)).cell? ⟨g,3,none⟩=some (.bool f.mark)from(by rw[Aa l.out];rfl);have ag:=Aj l.out 3;go_upto_region 3 with fail;have d:=Hq (show((u.setCell ⟨g,1,none⟩ (.string b)).setCell ⟨g,3,none⟩ (.bool true)).heap[g]? =some (.cells (Gc ⟨f.Ab,b,f.pins,true,f.rc⟩) 95 (0,0))from by have:=Cb 3 l.out (.bool true);simpa using this);have Q:Below g u ((u.setCell ⟨g,1,none⟩ (.string b)).setCell ⟨g,3,none⟩ (.bool true)):=((show Below g u u from⟨rfl,rfl,rfl,Nat.le_refl _,fun _ _=>rfl⟩).setCell (p:=⟨g,1,none⟩) (Nat.le_refl _) (.string b)).setCell (p:=⟨g,3,none⟩) (Nat.le_refl _) (.bool true);have R:=Hq (H5.out.under (M:=g) (by simp;omega) Q);have o:=Hq ((B.out.own j.out C.out 1 (.string b)).own l.out C.out 3 (.bool true));generalize ((u.setCell ⟨g,1,none⟩ (.string b)).setCell ⟨g,3,none⟩ (.bool true))=w7 at d R o ⊢;clear aa ae af ag Q l j H5 B
 try simp only[Act.put]
 have ah:=show w7.cell? ⟨g,4,none⟩=some (.int .i64 f.rc)from(by rw[Aa d.out];rfl)
 by_cases I:f.rc=0
 ·have S:(f.rc==0)=true:=by rw[I];rfl
  have D:=Hq (show V9 f b a=⟨f.Ab,b,f.pins,true,a⟩from by unfold V9;rw[if_pos I]);have ai:=Aj d.out 4;clear I;go_upto_region 5 with fail;have T:=Hq (show(w7.setCell ⟨g,4,none⟩ (.int .i64 a)).heap[g]? =some (.cells (Gc ⟨f.Ab,b,f.pins,true,a⟩) 95 (0,0))from by have:=Cb 4 d.out (.int .i64 a);simpa using this);have H9:=Hq (R.out.under (M:=g) (by simp;omega) ((show Below g w7 w7 from⟨rfl,rfl,rfl,Nat.le_refl _,fun _ _=>rfl⟩).setCell (p:=⟨g,4,none⟩) (Nat.le_refl _) (.int .i64 a)));have U:=Hq (o.out.own d.out C.out 4 (.int .i64 a));generalize w7.setCell ⟨g,4,none⟩ (.int .i64 a)=w9 at T H9 U ⊢;have E:=Hq (m.out ⟨f.Ab,b,f.pins,true,a⟩);clear ah ai d R o S m
  try simp only[Act.put]
  go_wp2_with(first
   |with_reducible refine lL H9.out.Am Az ?_
   |with_reducible refine lL T.out J5 ?_
   |(go_at_call 75;refine(E.out _ U.out).mono ?_;rintro e w8 ⟨q,rfl,G,H⟩;have r:=Hq (H9.out.step H))
   |with_reducible refine lS (Au s q) r.out.As ?_)
  refine rT1 r.out.As Az ?_;exact⟨q,rfl,D.out▸G.other (t:=36) r.out.As (by decide) (by decide) (by decide) _,(r.out.row 1 (Au s q) _ rfl).below⟩
 ·have S:(f.rc==0)=false:=beq_eq_false_iff_ne.2 I
  have D:=Hq (show V9 f b a=⟨f.Ab,b,f.pins,true,f.rc⟩from by unfold V9;rw[if_neg I]);have E:=Hq (m.out ⟨f.Ab,b,f.pins,true,f.rc⟩);clear m I
  go_wp2_with(first
   |with_reducible refine lL R.out.Am Az ?_
   |with_reducible refine lL d.out J5 ?_
   |(go_at_call 75;refine(E.out _ o.out).mono ?_;rintro e w8 ⟨q,rfl,G,H⟩;have r:=Hq (R.out.step H))
   |with_reducible refine lS (Au s q) r.out.As ?_)
  refine rT1 r.out.As Az ?_;exact⟨q,rfl,D.out▸G.other (t:=36) r.out.As (by decide) (by decide) (by decide) _,(r.out.row 1 (Au s q) _ rfl).below⟩
noncomputable def Ij (s:Tx.St) (fs:List Fr) (r:Rc.Rec):Px:=
 if Bo r.op.new=false then⟨s,fs,1⟩else
 match Oz fs r.Ab with
 |some k=>⟨s,fs.set k (V9 (Cz fs k) (Lw r.op.new) r.lsn),0⟩
 |none=>if(Bc s fs).1.e=0 then⟨(Bc s fs).1.s,(Bc s fs).1.fs.set (Bc s fs).2 (V9 ⟨r.Ab,⟨#[]⟩,0,false,0⟩ (Lw r.op.new) r.lsn),0⟩else Dz s fs (Bc s fs).1
theorem dU {N n B:Nat}(s:Tx.St)(p:SP)(fs:List Fr)(hW:Wf N n B s fs)(hB:B≤1000000)(r:Rc.Rec)(rA:Option Addr)(rn rc:Nat)(rB:Option Addr)(rm rd:Nat)(an:r.op.new.size≤140737488355328)(w:World)(h:Ba w s p fs):
 Cq 66 #[Ar s p,.agg #[r.lsn,r.prev,r.txn,r.kind,r.Ab,r.next,r.num,r.op.kind,r.op.slot,r.op.A5,r.op.new,r.how,r.root,r.e.key,r.e.Ab,r.e.slot,.slice rA rn rc,.slice rB rm rd]] w (Dq (Ij s fs r) w):=by
 have bd:=hW.nf;have L:=Hq (fun W=>N9 r.op.new an W);obtain⟨X,hX⟩:=ex (Ij s fs r);rw[← hX]
 by_cases H:Bo r.op.new=true
 ·rw[H]at L
  have ao:=Hq (fun W=>Xh r.op.new an W);have aq:=Hq (fun W (hb:Bw w W)=>Qp s p fs (by omega) r.Ab W (h.below hb));have O:=Hq (fun W (hb:Bw w W)=>Vk s p fs hW hB W (h.below hb));have P:=kG hW;have HP:=Hq h;have a6:=Hq (fun k (ha:Oz fs r.Ab=some k)=>show X=⟨s,fs.set k (V9 (Cz fs k) (Lw r.op.new) r.lsn),0⟩from by rw[hX];unfold Ij;rw[if_neg (by rw[H];decide),ha]);have C:=Hq (fun(ha:Oz fs r.Ab=none) (hr:¬ (Bc s fs).1.e=0)=>show X=Dz s fs (Bc s fs).1 from by rw[hX];unfold Ij;rw[if_neg (by rw[H];decide),ha];simp only;rw[if_neg hr]);have D:=Hq (fun(ha:Oz fs r.Ab=none) (hr:(Bc s fs).1.e=0)=>show X=⟨(Bc s fs).1.s,(Bc s fs).1.fs.set (Bc s fs).2 (V9 ⟨r.Ab,⟨#[]⟩,0,false,0⟩ (Lw r.op.new) r.lsn),0⟩from by rw[hX];unfold Ij;rw[if_neg (by rw[H];decide),ha];simp only;rw[if_pos hr]);have HQ:=Hq (fun w' (q:SP) (H:Ba w' X.s q X.fs) (hb:Bw w w')=>show Dq X w (.returned (.tuple #[Ar X.s q,X.e])) w' from⟨q,rfl,H,hb⟩);clear hX hW;generalize Dq X w=Q at HQ ⊢;have d:=Hq (show Dz s fs (Bc s fs).1=if(Bc s fs).1.e=0∨(Bc s fs).1.e=20 then(Bc s fs).1 else⟨s,fs,(Bc s fs).1.e⟩from rfl);generalize Dz s fs (Bc s fs).1=bk at C d;generalize Bc s fs=rm0 at O C D P d;obtain⟨⟨xs,a7,xe⟩,xk⟩:=rm0;simp only at O C D P d;generalize Lw r.op.new=nb at ao a6 D;clear h H;go_enter Tryz.func66,Tryz.ntmps66;go_upto_region 1 with fail;have V:=Ti w (Au s p) 36 #[r.lsn,r.prev,r.txn,r.kind,r.Ab,r.next,r.num,r.op.kind,r.op.slot,r.op.A5,r.op.new,r.how,r.root,r.e.key,r.e.Ab,r.e.slot,.slice rA rn rc,.slice rB rm rd] 47 #[(),(),(),'s',(),false,(),(),(),(),"",'s',(),'s',()] 36;obtain⟨W0,Y⟩:=Gz V;rw[← Y]at V ⊢;clear Y;have ad:=show W0.cell? ⟨(w.heap.size+1),10,none⟩=some (.string r.op.new)from by rw[Aa V.out.As];rfl
  go_upto_region 3 with(go_at_call 118;refine(L.out _).mono ?_;rintro e I ⟨rfl,Z⟩;have H1:=Hq (V.out.step Z))
  have ar:w.heap.size+2<I.heap.size:=H1.out.lt (i:=2) (by simp);clear ad Z V L
  go_cut [6,7,8] (fun x y z wc=>∃ (g:Nat) (kk:Int),x= .pointer (some ⟨g,0,none⟩)∧y= .int .i64 kk∧z= .int .i64 0∧w.heap.size+2<g∧g<wc.heap.size∧((kk= -1∧∀ f∈fs,¬ (Full f∧f.Ab=r.Ab))∨∃ (k:Nat) (hk:k<fs.length),kk=(k:Int)∧(Full fs[k]∧fs[k].Ab=r.Ab)∧∀ j (hj:j<k),¬ (Full (fs[j]'(by omega))∧(fs[j]'(by omega)).Ab=r.Ab))∧wc.heap[g]? =some (.cells (Au s p) 36 (0,0))∧Fc w.heap.size w [((Au s p),36),(#[r.lsn,r.prev,r.txn,r.kind,r.Ab,r.next,r.num,r.op.kind,r.op.slot,r.op.A5,r.op.new,r.how,r.root,r.e.key,r.e.Ab,r.e.slot,.slice rA rn rc,.slice rB rm rd],47),(#[(),(),(),'s',(),false,(),(),(),(),"",'s',(),'s',()],36)] wc)
  case first=>
   have au:=Hq (fun W (hb:Bw I W)=>aq.out W (Af H1.out.below (hb.mono (by have:=H1.out.below.size;omega))));have Z0:Bw I I.drew:=(Below.refl _ I).drew;have av:=show I.heap[w.heap.size]? =some (.cells (Au s p) 36 (0,0))from H1.out.Am;have b4:=show I.heap[w.heap.size+1]? =some (.cells #[r.lsn,r.prev,r.txn,r.kind,r.Ab,r.next,r.num,r.op.kind,r.op.slot,r.op.A5,r.op.new,r.how,r.root,r.e.key,r.e.Ab,r.e.slot,.slice rA rn rc,.slice rB rm rd] 47 (0,0))from H1.out.As;have Hy:=Hq (fun(u:World) (a8:Bw I u)=>(show u.cell? ⟨w.heap.size+1,4,none⟩=some (.int .i64 r.Ab)from(by rw[Aa (Ae b4 a8)];rfl)));refine Hw (S:=(fun u=>Bw I u)) (fun a=>?_);refine yA 0 (some 15) (v:=.agg (Au s p)) rfl (yieldsIf_load_mid (by rfl) 36 (.tmp 2) rfl w.heap.size 0 (by rfl) (Au s p).toList _ (fun u hu=>(by intro j v hj;rw[Nat.zero_add,Aa (Ae av hu)];simpa using hj)) Az Kr Kr) ?_
   try simp only[Act.put,pS]
   refine yA 1 (some 16) (v:=.agg (Au s p)) rfl (yieldsIf_load_mid (by rfl) 36 (.tmp 2) rfl w.heap.size 0 (by rfl) (Au s p).toList _ (fun u hu=>(by intro j v hj;rw[Nat.zero_add,Aa (Ae av hu)];simpa using hj)) Az Kr Kr) ?_
   try simp only[Act.put,pS]
   refine Be 2 ?_;refine Be 3 ?_;refine wpAnyH_ready (rs:=[4,5]) Kr (by simp) ?_;refine(AllReadyH.cons (o:={dst:=some 19,op:=_,type:=_,pos:=_,after:=_,guard:=_}) rfl (fun K b=>?_) (AllReadyH.cons (o:={dst:=some 6,op:=_,type:=_,pos:=_,after:=_,guard:=_}) rfl (fun K b=>?_) AllReadyH.nil))
   ·
    go_simp
    refine(au.out _ Z0).mono ?_;rintro e w5 ⟨kk,rfl,hq,A⟩;have Z1:=Af Z0 A;try clear hSn
    have hSn:=Z1;refine Db b (fun a=>?_);clear b K;refine D3 5 fun K b=>?_
    go_simp
    have HG:=heap_alloc_new w5 (.cells #[(),(),(),'s',(),false,(),(),(),(),"",'s',(),'s',()] 36);have Z2:=Af Z1 (Ag w5 (.cells #[(),(),(),'s',(),false,(),(),(),(),"",'s',(),'s',()] 36));clear hSn;have hSn:=Z2;refine Db b (fun a=>?_);clear b K;refine D3 6 fun K b=>?_;refine Cp (by rfl) ?_;refine sW (Au s p) HG ?_;have Z3:=Mf (g:=w5.heap.size) (by have:=Z1.size;omega) Z2 (Au s p);have l:=setRow_heap _ _ _ (Au s p) _ _ HG;clear hSn;have hSn:=Z3;refine Db b (fun a=>?_);clear b K;refine Be 7 ?_;refine Be 8 ?_;refine wpAnyH_done Kr ?_ _;clear a hSn;go_wp2_with fail;go_meet
    case rel=>exact⟨_,kk,rfl,rfl,rfl,(by have:=Z1.size;omega),C8 l,hq,l,H1.out.step Z3⟩
   ·
    go_simp
    have Z1:=Af Z0 (Ag I.drew (.cells #[(),(),(),'s',(),false,(),(),(),(),"",'s',(),'s',()] 36));have HG:=heap_alloc_new I.drew (.cells #[(),(),(),'s',(),false,(),(),(),(),"",'s',(),'s',()] 36);have hSn:=Z1;refine Db b (fun a=>?_);clear b K;refine D3 4 fun K b=>?_
    go_simp
    refine(au.out _ Z1).mono ?_;rintro e w5 ⟨kk,rfl,hq,A⟩;have Z2:=Af Z1 A;try clear hSn
    have hSn:=Z2;have HG:=Cn A;refine Db b (fun a=>?_);clear b K;refine D3 6 fun K b=>?_;refine Cp (by rfl) ?_;refine sW (Au s p) HG ?_;have Z3:=Mf (g:=I.drew.heap.size) (by show I.heap.size≤I.heap.size;omega) Z2 (Au s p);have l:=setRow_heap _ _ _ (Au s p) _ _ HG;clear hSn;have hSn:=Z3;refine Db b (fun a=>?_);clear b K;refine Be 7 ?_;refine Be 8 ?_;refine wpAnyH_done Kr ?_ _;clear a hSn;go_wp2_with fail;go_meet
    case rel=>exact⟨_,kk,rfl,rfl,rfl,(by show w.heap.size+2<I.heap.size;omega),C8 l,hq,l,H1.out.step Z3⟩
  case rest=>
   obtain⟨g,kk,rfl,rfl,rfl,bf,aw,hq,hg,hx⟩:=hcut;have H2:=Hq hx;have aa:=Hq hg;have bg:=Hq aw;clear hx hg aw H1 aq ar;go_upto_if 21 with fail
   go_cut [6,7] (fun x y wc=>∃ (S:Tx.St) (Q1:SP) (F:List Fr) (k:Nat),x= .pointer (some ⟨g,0,none⟩)∧y= .int .i64 (k:Int)∧X=⟨S,F.set k (V9 (Cz F k) nb r.lsn),0⟩∧k<F.length∧F.length≤100∧wc.heap[g]? =some (.cells (Au S Q1) 36 (0,0))∧Ba wc S Q1 F∧Fc w.heap.size w [((Au s p),36),(#[r.lsn,r.prev,r.txn,r.kind,r.Ab,r.next,r.num,r.op.kind,r.op.slot,r.op.A5,r.op.new,r.how,r.root,r.e.key,r.e.Ab,r.e.slot,.slice rA rn rc,.slice rB rm rd],47),(#[(),(),(),'s',(),false,(),(),(),(),"",'s',(),'s',()],36)] wc)
   case first=>
    rcases hq with⟨rfl,hq⟩|⟨k,hk,rfl,ax,ay⟩
    ·have bh:(-1:Int)<0:=by decide
     have az:=Hq (Nz hq);clear hq a6
     go_upto_region 6 with(first
      |with_reducible refine lL H2.out.Am Az ?_
      |(go_at_call 119;refine(O.out _ H2.out.below).mono ?_;rintro e w4 ⟨q,rfl,b0,ae⟩;have H4:=Hq (H2.out.step ae);have l:=Hq (Ae aa.out ae))
      |with_reducible refine lS (Au xs q) l.out ?_)
     have H5:=Hq (H4.out.under (M:=g) (by simp;omega) (Mf (g:=g) (Nat.le_refl g) (show Below g w4 w4 from⟨rfl,rfl,rfl,Nat.le_refl _,fun _ _=>rfl⟩) (Au xs q)));have a1:=Hq (setRow_heap _ _ _ (Au xs q) _ _ l.out);have R:=Hq (fun hx=>(b0 hx).other (t:=36) l.out (by decide) (by decide) (by decide) (Au xs q));generalize w4.setRow g (Au xs q)=w5 at H5 a1 R ⊢;clear ae H4 l H2 aa O b0
     try simp only[Act.put]
     by_cases m:xe=0
     ·have b5:(xe != 0)=false:=by rw[m];rfl
      have af:=Hq (R.out (.inl m));have T:=Hq (D.out az.out m);clear m R C D d;have b6:=Hq (show ∀ W,Ba W xs q a7→_ from fun W H=>Ht xs q a7 P.1 xk P.2 ⟨r.Ab,⟨#[]⟩,0,false,0⟩ W H);have bj:=show w5.cell? ⟨(w.heap.size+1),4,none⟩=some (.int .i64 r.Ab)from by rw[Aa H5.out.As];rfl
      go_wp2_with(first
       |with_reducible refine lL a1.out Az ?_
       |(go_at_call 75;refine(b6.out _ af.out).mono ?_;rintro e w6 ⟨U,rfl,ag,c⟩;have E:=Hq (H5.out.step c);have ah:=Hq (Ae a1.out c))
       |with_reducible refine lS (Au xs U) ah.out ?_)
      go_meet
      case rel=>
       have hl:xk<(a7.set xk ⟨r.Ab,⟨#[]⟩,0,false,0⟩).length:=(by rw[List.length_set];exact P.2);refine⟨xs,U,a7.set xk ⟨r.Ab,⟨#[]⟩,0,false,0⟩,xk,rfl,rfl,?_,hl,by rw[List.length_set];exact P.1,setRow_heap _ _ _ (Au xs U) _ _ ah.out,ag.other (t:=36) ah.out (by decide) (by decide) (by decide) (Au xs U),E.out.under (M:=g) (by simp;omega) (Mf (g:=g) (Nat.le_refl g) (show Below g w6 w6 from⟨rfl,rfl,rfl,Nat.le_refl _,fun _ _=>rfl⟩) (Au xs U))⟩;rw[Bh hl,List.getElem_set_self,List.set_set];exact T.out
     ·have b5:(xe != 0)=true:=by rw[bne_iff_ne];exact m
      have T:=Hq (C.out az.out m);clear D C
      by_cases J:xe=20
      ·have ai:=Hq (fun W=>show Cr 81 #[Ar s p,Ar xs q,xe] W (Ar xs q) from by
        have h0:=Gn s p xs q xe W;rw[if_pos (.inr J)]at h0;exact h0)
       have af:=Hq (R.out (.inr J));have aj:=T.out.trans (d.out.trans (if_pos (.inr J)));subst aj;clear m J R d T
       go_wp2_with(first
        |with_reducible refine lL H5.out.Am Az ?_
        |with_reducible refine lL a1.out Az ?_
        |(go_at_call 81;refine(ai.out _).mono ?_;rintro e w6 ⟨rfl,c⟩;have E:=Hq (H5.out.step c))
        |with_reducible refine lS (Au xs q) E.out.Cc ?_)
       refine rT2 xe E.out.Cc Az ?_;exact HQ.out _ q ((af.out.below c).other (t:=36) E.out.Cc (by decide) (by decide) (by decide) _) (E.out.row 2 (Au xs q) _ rfl).below
      ·have ai:=Hq (fun W=>show Cr 81 #[Ar s p,Ar xs q,xe] W (Ar s p) from by
        have h0:=Gn s p xs q xe W;rw[if_neg (fun h=>h.elim m J)]at h0;exact h0)
       have aj:=T.out.trans (d.out.trans (if_neg (fun h=>h.elim m J)));subst aj;clear m J R d T
       go_wp2_with(first
        |with_reducible refine lL H5.out.Am Az ?_
        |with_reducible refine lL a1.out Az ?_
        |(go_at_call 81;refine(ai.out _).mono ?_;rintro e w6 ⟨rfl,c⟩;have E:=Hq (H5.out.step c))
        |with_reducible refine lS (Au s p) E.out.Cc ?_)
       refine rT2 xe E.out.Cc Az ?_;exact HQ.out _ p ((HP.out.below E.out.below).other (t:=36) E.out.Cc (by decide) (by decide) (by decide) _) (E.out.row 2 (Au s p) _ rfl).below
    ·have bl:¬ (k:Int)<0:=by omega
     have b7:=Hq (Qq hk ax fun j hj b8=>ay j b8);clear ax ay C D O d;go_wp2_with fail;go_meet
     case rel=>exact⟨s,p,fs,k,rfl,rfl,by rw[a6.out k b7.out],hk,by omega,aa.out,HP.out.below H2.out.below,H2.out⟩
   case rest=>
    obtain⟨S,Q1,F,k,rfl,rfl,hX,hk,hF,hg,H,hx⟩:=hcut;subst hX;have b1:=Hq (fun W H=>Sx S Q1 F hF k hk nb r.lsn W H);have b9:=Hq H;have ba:=Hq hg;have H3:=Hq hx;generalize F.set k (V9 (Cz F k) nb r.lsn)=F2 at b1 HQ;clear H hg hx hq H2 aa HP a6 C D O d hF hk;go_upto_region 9 with fail;have hSn:wc.drew.heap[g]? =some (.cells (Au S Q1) 36 (0,0))∧wc.drew.heap[w.heap.size+1]? =some (.cells #[r.lsn,r.prev,r.txn,r.kind,r.Ab,r.next,r.num,r.op.kind,r.op.slot,r.op.A5,r.op.new,r.how,r.root,r.e.key,r.e.Ab,r.e.slot,.slice rA rn rc,.slice rB rm rd] 47 (0,0)):=⟨ba.out,H3.out.As⟩;have H9:=H3.out.drew;have b2:=b9.out.below (Below.refl _ wc).drew;have Hy:=Hq (fun(u:World) (a8:u.heap[g]? =some (.cells (Au S Q1) 36 (0,0))∧u.heap[w.heap.size+1]? =some (.cells #[r.lsn,r.prev,r.txn,r.kind,r.Ab,r.next,r.num,r.op.kind,r.op.slot,r.op.A5,r.op.new,r.how,r.root,r.e.key,r.e.Ab,r.e.slot,.slice rA rn rc,.slice rB rm rd] 47 (0,0)))=>(And.intro (show u.cell? ⟨w.heap.size+1,10,none⟩=some (.string r.op.new)from(by rw[Aa a8.2];rfl)) (show u.cell? ⟨w.heap.size+1,0,none⟩=some (.int .i64 r.lsn)from(by rw[Aa a8.2];rfl))));refine Hw (S:=(fun u=>u.heap[g]? =some (.cells (Au S Q1) 36 (0,0))∧u.heap[w.heap.size+1]? =some (.cells #[r.lsn,r.prev,r.txn,r.kind,r.Ab,r.next,r.num,r.op.kind,r.op.slot,r.op.A5,r.op.new,r.how,r.root,r.e.key,r.e.Ab,r.e.slot,.slice rA rn rc,.slice rB rm rd] 47 (0,0)))) (fun a=>?_);generalize wc.drew=w9 at hSn H9 b2 ⊢;refine tkL 0 Az ?_;refine Be 1 ?_;refine Be 2 ?_;refine Be 3 ?_;refine Be 4 ?_;refine Be 6 ?_;refine Be 7 ?_;refine D3 5 fun K b=>?_
    go_simp
    (refine(ao.out _).mono ?_);rintro e w5 ⟨rfl,A⟩;have H5:=H9.step A;have bb:=b2.below A;have G:=And.intro (Ae hSn.1 A) (Ae hSn.2 A);clear hSn;have hSn:=G;clear G
    refine Db b (fun a=>?_);clear b K;refine D3 8 fun K b=>?_
    go_simp
    (refine(b1.out _ bb).mono ?_);rintro e w6 ⟨U,rfl,ag,c⟩;have E:=H5.step c;have G:=And.intro (Ae hSn.1 c) (Ae hSn.2 c);clear hSn;have hSn:=G;clear G
    refine Db b (fun a=>?_);clear b K;refine D3 9 fun K b=>?_;refine Cp (by rfl) ?_;refine sW (Au S U) E.Cc ?_;have bc:=E.row 2 (Au S U) _ rfl;have b3:=ag.other (t:=36) E.Cc (by decide) (by decide) (by decide) (Au S U);have G:=And.intro ((Aw _ _ (Au S U) _ (show g≠w.heap.size+2 by omega)).trans hSn.1) ((Aw _ _ (Au S U) _ (show w.heap.size+1≠w.heap.size+2 by omega)).trans hSn.2);clear hSn;have hSn:=G;clear G;refine Db b (fun a=>?_);clear b K;refine Be 10 ?_;refine wpAnyH_done Kr ?_ _;clear a;go_wp2_with fail;refine rT2 () E.Cc Az ?_;exact HQ.out _ U b3 bc.below
 ·have ak:Bo r.op.new=false:=by cases hh:Bo r.op.new with|false=>rfl|true=>exact absurd hh H
  rw[ak]at L;have HQ:=Hq (fun w' (hb:Bw w w')=>show Dq X w (.returned (.tuple #[Ar s p,.int .i64 1])) w' from by
   have e:X=⟨s,fs,1⟩:=(by rw[hX];unfold Ij;rw[if_pos ak]);rw[e];exact⟨p,rfl,h.below hb,hb⟩)
  clear h hX hW H ak;generalize Dq X w=Q at HQ ⊢;go_enter Tryz.func66,Tryz.ntmps66;go_upto_region 1 with fail;have V:=Ti w (Au s p) 36 #[r.lsn,r.prev,r.txn,r.kind,r.Ab,r.next,r.num,r.op.kind,r.op.slot,r.op.A5,r.op.new,r.how,r.root,r.e.key,r.e.Ab,r.e.slot,.slice rA rn rc,.slice rB rm rd] 47 #[(),(),(),'s',(),false,(),(),(),(),"",'s',(),'s',()] 36;obtain⟨W0,Y⟩:=Gz V;rw[← Y]at V ⊢;clear Y;have ad:=show W0.cell? ⟨(w.heap.size+1),10,none⟩=some (.string r.op.new)from by rw[Aa V.out.As];rfl
  go_upto_region 2 with(go_at_call 118;refine(L.out _).mono ?_;rintro e I ⟨rfl,Z⟩;have H1:=Hq (V.out.step Z))
  clear ad Z V L
  go_wp2_with(first|with_reducible refine lL H1.out.Am Az ?_|with_reducible refine lS (Au s p) H1.out.Cc ?_)
  refine rT2 (.int .i64 1) H1.out.Cc Az ?_;exact HQ.out _ (H1.out.row 2 (Au s p) _ rfl).below
def Ky (s:Tx.St)(r:Rc.Rec):Prop:=(r.kind=2∨r.kind=3∨r.kind=8)∧Im s r.Ab∧1≤r.lsn∧r.lsn<1099511627776
instance (s:Tx.St) (r:Rc.Rec):Decidable (Ky s r):=by unfold Ky;exact inferInstance
noncomputable def Hg (s:Tx.St) (fs:List Fr) (r:Rc.Rec) (D:ByteArray→ByteArray×Int):Px:=
 if ¬ Ky s r then⟨s,fs,1⟩else
 if r.kind=8 then Ij s fs r else
 if ¬ (Ao s fs r.Ab).1.e=0 then(Ao s fs r.Ab).1 else
 if r.lsn≤(((Ac (Cz (Ao s fs r.Ab).1.fs (Ao s fs r.Ab).2).bytes).lsn:Nat):Int)then(Ao s fs r.Ab).1 else
 if ¬ (D (Cz (Ao s fs r.Ab).1.fs (Ao s fs r.Ab).2).bytes).2=0 then⟨s,fs,(D (Cz (Ao s fs r.Ab).1.fs (Ao s fs r.Ab).2).bytes).2⟩else
 ⟨(Ao s fs r.Ab).1.s,(Ao s fs r.Ab).1.fs.set (Ao s fs r.Ab).2 (V9 (Cz (Ao s fs r.Ab).1.fs (Ao s fs r.Ab).2) (Cj (D (Cz (Ao s fs r.Ab).1.fs (Ao s fs r.Ab).2).bytes).1 r.lsn) r.lsn),0⟩
theorem iR {N n B:Nat}(s:Tx.St)(p:SP)(fs:List Fr)(hW:Wf N n B s fs)(hB:B≤1000000)(r:Rc.Rec)(rA:Option Addr)(rn rc:Nat)(rB:Option Addr)(rm rd:Nat)(br:r.op.new.size≤140737488355328)(D:ByteArray→ByteArray×Int)(hD:∀ b,(D b).2=0→Bo (D b).1=true)(w:World)
 (b4:∀ (b:ByteArray) W,b.size≤512→Bw w W→Cr 69 #[b,.agg #[r.op.kind,r.op.slot,r.op.A5,r.op.new]] W (G7 (D b))) (h:Ba w s p fs):
 Cq 26 #[Ar s p,.agg #[r.lsn,r.prev,r.txn,r.kind,r.Ab,r.next,r.num,r.op.kind,r.op.slot,r.op.A5,r.op.new,r.how,r.root,r.e.key,r.e.Ab,r.e.slot,.slice rA rn rc,.slice rB rm rd]] w (Dq (Hg s fs r D) w):=by
 obtain⟨X,hX⟩:=ex (Hg s fs r D);rw[← hX];have b5:=hW.zp;have k:=Hq (fun W=>Ny s p n hW.zp r.Ab W);have ar:=Hq (fun W (hb:Bw w W)=>dU s p fs hW hB r rA rn rc rB rm rd br W (h.below hb));have V:=Hq (fun W (hb:Bw w W)=>M0 s p fs hW hB r.Ab W (h.below hb));have au:=Hq (fun W (hb:Bw w W) (e:Int)=>show X=⟨s,fs,e⟩→Dq X w (.returned (.tuple #[Ar s p,e])) W from fun he=>by rw[he];exact⟨p,rfl,h.below hb,hb⟩);have Z:=Hq (fun(Y:Px) (he:X=Y) w' (q:SP) (hp:Ba w' Y.s q Y.fs) (hb:Bw w w')=>show Dq X w (.returned (.tuple #[Ar Y.s q,Y.e])) w' from by rw[he];exact⟨q,rfl,hp,hb⟩);have m:=Hq (show Ky s r↔(r.kind=2∨r.kind=3∨r.kind=8)∧(0≤r.Ab∧r.Ab<(n:Int))∧1≤r.lsn∧r.lsn<1099511627776 from by unfold Ky Im;rw[b5]);have av:=Hq (fun(l:¬ Ky s r)=>show X=⟨s,fs,1⟩from by rw[hX];unfold Hg;rw[if_pos l]);have a1:=Hq (fun(hy:Ky s r) (h8:r.kind=8)=>show X=Ij s fs r from by rw[hX];unfold Hg;rw[if_neg (fun l=>l hy),if_pos h8]);have H:=Hq (fun(hy:Ky s r) (h8:¬ r.kind=8)=>show X=if ¬ (Ao s fs r.Ab).1.e=0 then(Ao s fs r.Ab).1 else
  if r.lsn≤(((Ac (Cz (Ao s fs r.Ab).1.fs (Ao s fs r.Ab).2).bytes).lsn:Nat):Int)then(Ao s fs r.Ab).1 else
  if ¬ (D (Cz (Ao s fs r.Ab).1.fs (Ao s fs r.Ab).2).bytes).2=0 then⟨s,fs,(D (Cz (Ao s fs r.Ab).1.fs (Ao s fs r.Ab).2).bytes).2⟩else
  ⟨(Ao s fs r.Ab).1.s,(Ao s fs r.Ab).1.fs.set (Ao s fs r.Ab).2 (V9 (Cz (Ao s fs r.Ab).1.fs (Ao s fs r.Ab).2) (Cj (D (Cz (Ao s fs r.Ab).1.fs (Ao s fs r.Ab).2).bytes).1 r.lsn) r.lsn),0⟩from by rw[hX];unfold Hg;rw[if_neg (fun l=>l hy),if_neg h8])
 have aa:=hW.held r.Ab;have bs:=hW.nf;have b6:=Hq b4;have HD:=Hq hD;clear hX hW h b5 b4 hD;generalize Dq X w=Q at au Z ⊢;generalize Ij s fs r=im at ar a1;generalize Ky s r=ok at m av a1 H;generalize Ao s fs r.Ab=rr at V H aa;obtain⟨⟨xs,G,xe⟩,xk⟩:=rr;simp only at V H aa;have a6:xk<G.length:=by omega
 have bt:G.length≤100:=by omega
 rw[Bh a6]at H;have bu:=Hq aa.1;obtain⟨f,ad⟩:=ex (G[xk]);rw[← ad]at H;have b7:=Hq ad;have ao:f.bytes.size≤512:=by rw[ad];exact(bu.out.fr xk a6).sz
 clear ad aa bs;go_enter Tryz.func26,Tryz.ntmps26;go_upto_region 1 with fail;have o:=Ti w (Au s p) 36 #[r.lsn,r.prev,r.txn,r.kind,r.Ab,r.next,r.num,r.op.kind,r.op.slot,r.op.A5,r.op.new,r.how,r.root,r.e.key,r.e.Ab,r.e.slot,.slice rA rn rc,.slice rB rm rd] 47 #[(),(),(),'s',(),false,(),(),(),(),"",'s',(),'s',()] 36;obtain⟨W0,b8⟩:=Gz o;rw[← b8]at o ⊢;clear b8;have P:=show W0.cell? ⟨(w.heap.size+1),3,none⟩=some (.int .i64 r.kind)from by rw[Aa o.out.As];rfl
 have aw:=show W0.cell? ⟨(w.heap.size+1),4,none⟩=some (.int .i64 r.Ab)from by rw[Aa o.out.As];rfl
 have bw:=show W0.cell? ⟨(w.heap.size+1),0,none⟩=some (.int .i64 r.lsn)from by rw[Aa o.out.As];rfl
 go_cut [39] (fun x wc=>∃ bb:Bool,x= .bool bb∧(bb=true↔¬ ok)∧Bw W0 wc)
 case first=>
  by_cases J:r.kind=2∨r.kind=3∨r.kind=8
  ·have ax:=Hq J
   rcases J with hk|hk|hk
   ·rw[hk]at P
    clear hk
    by_cases d:0≤r.Ab∧r.Ab<(n:Int)
    ·rw[decide_eq_true d]at k
     by_cases b9:r.lsn<1
     ·have a:true=true↔¬ ok:=⟨fun _ l=>by have:=m.out.1 l;omega,fun _=>rfl⟩
      have j:=Hq a;clear a d
      go_wp2_with(first|with_reducible refine lL o.out.Am Az ?_|(go_at_call 65;refine(k.out _).mono ?_;rintro e A ⟨rfl,c⟩;have C:=show A.cell? ⟨(w.heap.size+1),0,none⟩=some (.int .i64 r.lsn)from(by rw[Aa (Ae o.out.As c)];rfl)))
      go_meet
      case rel=>exact⟨true,by first|rfl|(rw[decide_eq_false (show ¬ r.lsn<1 by omega),decide_eq_false (show ¬ (1099511627776:Int)≤r.lsn by omega)];rfl),by simpa using j.out,c⟩
     ·by_cases ba:(1099511627776:Int)≤r.lsn
      ·have a:true=true↔¬ ok:=⟨fun _ l=>by have:=m.out.1 l;omega,fun _=>rfl⟩
       have j:=Hq a;clear a d
       go_wp2_with(first|with_reducible refine lL o.out.Am Az ?_|(go_at_call 65;refine(k.out _).mono ?_;rintro e A ⟨rfl,c⟩;have C:=show A.cell? ⟨(w.heap.size+1),0,none⟩=some (.int .i64 r.lsn)from(by rw[Aa (Ae o.out.As c)];rfl)))
       go_meet
       case rel=>exact⟨true,by first|rfl|(rw[decide_eq_false (show ¬ r.lsn<1 by omega),decide_eq_false (show ¬ (1099511627776:Int)≤r.lsn by omega)];rfl),by simpa using j.out,c⟩
      ·have a:false=true↔¬ ok:=⟨fun h=>absurd h (by decide),fun l=>absurd (m.out.2 ⟨ax.out,d,by omega,by omega⟩) l⟩
       have j:=Hq a;clear a d
       go_wp2_with(first|with_reducible refine lL o.out.Am Az ?_|(go_at_call 65;refine(k.out _).mono ?_;rintro e A ⟨rfl,c⟩;have C:=show A.cell? ⟨(w.heap.size+1),0,none⟩=some (.int .i64 r.lsn)from(by rw[Aa (Ae o.out.As c)];rfl)))
       go_meet
       case rel=>exact⟨false,by first|rfl|(rw[decide_eq_false (show ¬ r.lsn<1 by omega),decide_eq_false (show ¬ (1099511627776:Int)≤r.lsn by omega)];rfl),by simpa using j.out,c⟩
    ·rw[decide_eq_false d]at k
     have a:true=true↔¬ ok:=⟨fun _ l=>absurd (m.out.1 l).2.1 d,fun _=>rfl⟩;have j:=Hq a;clear a d
     go_wp2_with(first|with_reducible refine lL o.out.Am Az ?_|(go_at_call 65;refine(k.out _).mono ?_;rintro e A ⟨rfl,c⟩;have C:=show A.cell? ⟨(w.heap.size+1),0,none⟩=some (.int .i64 r.lsn)from(by rw[Aa (Ae o.out.As c)];rfl)))
     go_meet
     case rel=>exact⟨true,by first|rfl|(rw[decide_eq_false (show ¬ r.lsn<1 by omega),decide_eq_false (show ¬ (1099511627776:Int)≤r.lsn by omega)];rfl),by simpa using j.out,c⟩
   ·rw[hk]at P
    clear hk
    by_cases d:0≤r.Ab∧r.Ab<(n:Int)
    ·rw[decide_eq_true d]at k
     by_cases b9:r.lsn<1
     ·have a:true=true↔¬ ok:=⟨fun _ l=>by have:=m.out.1 l;omega,fun _=>rfl⟩
      have j:=Hq a;clear a d
      go_wp2_with(first|with_reducible refine lL o.out.Am Az ?_|(go_at_call 65;refine(k.out _).mono ?_;rintro e A ⟨rfl,c⟩;have C:=show A.cell? ⟨(w.heap.size+1),0,none⟩=some (.int .i64 r.lsn)from(by rw[Aa (Ae o.out.As c)];rfl)))
      go_meet
      case rel=>exact⟨true,by first|rfl|(rw[decide_eq_false (show ¬ r.lsn<1 by omega),decide_eq_false (show ¬ (1099511627776:Int)≤r.lsn by omega)];rfl),by simpa using j.out,c⟩
     ·by_cases ba:(1099511627776:Int)≤r.lsn
      ·have a:true=true↔¬ ok:=⟨fun _ l=>by have:=m.out.1 l;omega,fun _=>rfl⟩
       have j:=Hq a;clear a d
       go_wp2_with(first|with_reducible refine lL o.out.Am Az ?_|(go_at_call 65;refine(k.out _).mono ?_;rintro e A ⟨rfl,c⟩;have C:=show A.cell? ⟨(w.heap.size+1),0,none⟩=some (.int .i64 r.lsn)from(by rw[Aa (Ae o.out.As c)];rfl)))
       go_meet
       case rel=>exact⟨true,by first|rfl|(rw[decide_eq_false (show ¬ r.lsn<1 by omega),decide_eq_false (show ¬ (1099511627776:Int)≤r.lsn by omega)];rfl),by simpa using j.out,c⟩
      ·have a:false=true↔¬ ok:=⟨fun h=>absurd h (by decide),fun l=>absurd (m.out.2 ⟨ax.out,d,by omega,by omega⟩) l⟩
       have j:=Hq a;clear a d
       go_wp2_with(first|with_reducible refine lL o.out.Am Az ?_|(go_at_call 65;refine(k.out _).mono ?_;rintro e A ⟨rfl,c⟩;have C:=show A.cell? ⟨(w.heap.size+1),0,none⟩=some (.int .i64 r.lsn)from(by rw[Aa (Ae o.out.As c)];rfl)))
       go_meet
       case rel=>exact⟨false,by first|rfl|(rw[decide_eq_false (show ¬ r.lsn<1 by omega),decide_eq_false (show ¬ (1099511627776:Int)≤r.lsn by omega)];rfl),by simpa using j.out,c⟩
    ·rw[decide_eq_false d]at k
     have a:true=true↔¬ ok:=⟨fun _ l=>absurd (m.out.1 l).2.1 d,fun _=>rfl⟩;have j:=Hq a;clear a d
     go_wp2_with(first|with_reducible refine lL o.out.Am Az ?_|(go_at_call 65;refine(k.out _).mono ?_;rintro e A ⟨rfl,c⟩;have C:=show A.cell? ⟨(w.heap.size+1),0,none⟩=some (.int .i64 r.lsn)from(by rw[Aa (Ae o.out.As c)];rfl)))
     go_meet
     case rel=>exact⟨true,by first|rfl|(rw[decide_eq_false (show ¬ r.lsn<1 by omega),decide_eq_false (show ¬ (1099511627776:Int)≤r.lsn by omega)];rfl),by simpa using j.out,c⟩
   ·rw[hk]at P
    clear hk
    by_cases d:0≤r.Ab∧r.Ab<(n:Int)
    ·rw[decide_eq_true d]at k
     by_cases b9:r.lsn<1
     ·have a:true=true↔¬ ok:=⟨fun _ l=>by have:=m.out.1 l;omega,fun _=>rfl⟩
      have j:=Hq a;clear a d
      go_wp2_with(first|with_reducible refine lL o.out.Am Az ?_|(go_at_call 65;refine(k.out _).mono ?_;rintro e A ⟨rfl,c⟩;have C:=show A.cell? ⟨(w.heap.size+1),0,none⟩=some (.int .i64 r.lsn)from(by rw[Aa (Ae o.out.As c)];rfl)))
      go_meet
      case rel=>exact⟨true,by first|rfl|(rw[decide_eq_false (show ¬ r.lsn<1 by omega),decide_eq_false (show ¬ (1099511627776:Int)≤r.lsn by omega)];rfl),by simpa using j.out,c⟩
     ·by_cases ba:(1099511627776:Int)≤r.lsn
      ·have a:true=true↔¬ ok:=⟨fun _ l=>by have:=m.out.1 l;omega,fun _=>rfl⟩
       have j:=Hq a;clear a d
       go_wp2_with(first|with_reducible refine lL o.out.Am Az ?_|(go_at_call 65;refine(k.out _).mono ?_;rintro e A ⟨rfl,c⟩;have C:=show A.cell? ⟨(w.heap.size+1),0,none⟩=some (.int .i64 r.lsn)from(by rw[Aa (Ae o.out.As c)];rfl)))
       go_meet
       case rel=>exact⟨true,by first|rfl|(rw[decide_eq_false (show ¬ r.lsn<1 by omega),decide_eq_false (show ¬ (1099511627776:Int)≤r.lsn by omega)];rfl),by simpa using j.out,c⟩
      ·have a:false=true↔¬ ok:=⟨fun h=>absurd h (by decide),fun l=>absurd (m.out.2 ⟨ax.out,d,by omega,by omega⟩) l⟩
       have j:=Hq a;clear a d
       go_wp2_with(first|with_reducible refine lL o.out.Am Az ?_|(go_at_call 65;refine(k.out _).mono ?_;rintro e A ⟨rfl,c⟩;have C:=show A.cell? ⟨(w.heap.size+1),0,none⟩=some (.int .i64 r.lsn)from(by rw[Aa (Ae o.out.As c)];rfl)))
       go_meet
       case rel=>exact⟨false,by first|rfl|(rw[decide_eq_false (show ¬ r.lsn<1 by omega),decide_eq_false (show ¬ (1099511627776:Int)≤r.lsn by omega)];rfl),by simpa using j.out,c⟩
    ·rw[decide_eq_false d]at k
     have a:true=true↔¬ ok:=⟨fun _ l=>absurd (m.out.1 l).2.1 d,fun _=>rfl⟩;have j:=Hq a;clear a d
     go_wp2_with(first|with_reducible refine lL o.out.Am Az ?_|(go_at_call 65;refine(k.out _).mono ?_;rintro e A ⟨rfl,c⟩;have C:=show A.cell? ⟨(w.heap.size+1),0,none⟩=some (.int .i64 r.lsn)from(by rw[Aa (Ae o.out.As c)];rfl)))
     go_meet
     case rel=>exact⟨true,by first|rfl|(rw[decide_eq_false (show ¬ r.lsn<1 by omega),decide_eq_false (show ¬ (1099511627776:Int)≤r.lsn by omega)];rfl),by simpa using j.out,c⟩
  ·have a:true=true↔¬ ok:=⟨fun _ l=>absurd (m.out.1 l).1 J,fun _=>rfl⟩
   have j:=Hq a;have ck:(r.kind != 2)=true:=(by rw[bne_iff_ne];exact fun e=>J (by omega));have cm:(r.kind != 3)=true:=(by rw[bne_iff_ne];exact fun e=>J (by omega));have cn:(r.kind != 8)=true:=(by rw[bne_iff_ne];exact fun e=>J (by omega));clear a J;go_wp2_with fail;go_meet
   case rel=>exact⟨true,by first|rfl|(rw[decide_eq_false (show ¬ r.lsn<1 by omega),decide_eq_false (show ¬ (1099511627776:Int)≤r.lsn by omega)];rfl),by simpa using j.out,Below.refl _ _⟩
 case rest=>
  obtain⟨bb,rfl,R,bc⟩:=hcut;obtain⟨A,rfl⟩:=ex wc;have H1:=Hq (o.out.step bc);clear P aw bw bc k o m
  cases bb with
  |true=>
   have y:=Hq (av.out (R.1 rfl));clear R
   go_wp2_with(first|with_reducible refine lL H1.out.Am Az ?_|with_reducible refine lS (Au s p) H1.out.Cc ?_)
   refine rT2 (.int .i64 1) H1.out.Cc Az ?_;exact au.out _ (H1.out.row 2 (Au s p) _ rfl).below 1 y.out
  |false=>
   have ay:=Hq (show ok from Classical.byContradiction fun l=>absurd (R.2 l) (by decide));have P:=show A.cell? ⟨(w.heap.size+1),3,none⟩=some (.int .i64 r.kind)from(by rw[Aa H1.out.As];rfl);clear R av
   by_cases h8:r.kind=8
   ·have bf:(r.kind==8)=true:=by rw[h8];rfl
    have y:=Hq (a1.out ay.out h8);clear h8 H a1 V
    go_wp2_with(first
     |with_reducible refine lL H1.out.Am Az ?_
     |with_reducible refine lL H1.out.As Ca ?_
     |(go_at_call 66;refine(ar.out _ H1.out.below).mono ?_;rintro e w2 ⟨q,rfl,bx,bz⟩;have H2:=Hq (H1.out.step bz))
     |with_reducible refine lS (Au im.s q) H2.out.Cc ?_)
    refine rT2 (im.e) H2.out.Cc Az ?_;exact Z.out im y.out _ q (bx.other (t:=36) H2.out.Cc (by decide) (by decide) (by decide) _) (H2.out.row 2 (Au im.s q) _ rfl).below
   ·have bf:(r.kind==8)=false:=beq_eq_false_iff_ne.2 h8
    have ae:=Hq (H.out ay.out h8);have aw:=show A.cell? ⟨(w.heap.size+1),4,none⟩=some (.int .i64 r.Ab)from(by rw[Aa H1.out.As];rfl);clear h8 H a1 ar ay
    go_upto_region 6 with(first
     |with_reducible refine lL H1.out.Am Az ?_
     |(go_at_call 67;refine(V.out _ H1.out.below).mono ?_;rintro e w4 ⟨q,rfl,bg,af⟩)
     |with_reducible refine sN (Au xs q) ?_)
    have L:=af.trans ((Ag w4 (.cells (Au xs q) 36)).mono af.size);have H5:=Hq (H1.out.step L);have a7:=Hq (heap_alloc_new w4 (.cells (Au xs q) 36));have T:=Hq (bg.below (Ag w4 (.cells (Au xs q) 36)));have c6:(w.heap.size+2)<w4.heap.size:=Nat.lt_of_lt_of_le (H1.out.lt (i:=2) (by simp)) af.size;obtain⟨g,hg⟩:=ex w4.heap.size;obtain⟨w5,ag⟩:=ex (w4.alloc (.cells (Au xs q) 36));rw[← hg,← ag]at a7;rw[← ag]at H5 T;rw[← ag,← hg];rw[← hg]at c6;clear ag hg af L bg H1 V aw P bf
    try simp only[Act.put]
    by_cases a8:xe=0
    case neg=>
     have bh:(xe != 0)=true:=(by rw[bne_iff_ne];exact a8);have y:=Hq (show X=⟨xs,G,xe⟩from by rw[ae.out,if_pos a8]);clear a8 ae
     go_wp2_with(first|with_reducible refine lL a7.out Az ?_|with_reducible refine lS (Au xs q) H5.out.Cc ?_)
     refine rT2 xe H5.out.Cc Az ?_;exact Z.out _ y.out _ q (T.out.other (t:=36) H5.out.Cc (by decide) (by decide) (by decide) _) (H5.out.row 2 (Au xs q) _ rfl).below
    have bh:(xe != 0)=false:=(by rw[a8];rfl);subst a8;have I:=Hq (ae.out.trans (if_neg (fun l=>l rfl)));clear ae;have cp:(0:Int)≤(xk:Int):=(by omega);have cq:(xk:Int)<(G.length:Int):=(by omega);obtain⟨bj,aq,bk,c7,c8,M⟩:=Cv E3 T.out.fr a6;rw[← b7.out]at M;obtain⟨fb,az⟩:=ex f.bytes;rw[← az]at I ao;have ca:=show w5.cell? ⟨bj,aq+xk*5+1,none⟩=some (.string fb)from(by rw[az];exact M 1 _ rfl);have bl:=show w5.cell? ⟨g,11,none⟩=some (.slice (some ⟨bj,aq,none⟩) G.length q.fc)from(by rw[Aa a7.out,← bk,← T.out.fn];rfl);clear M c7 c8 bk az;go_upto_region 9 with fail;clear ca bl bh;have b0:=Hq (fun W=>Yi fb (by omega) W);have ah:=Hq (fun W hb=>b6.out fb W ao hb);have ai:=Hq (HD.out fb);generalize (Ac fb).lsn=ln at b0 I;generalize D fb=bd at ah ai I;obtain⟨b,be⟩:=bd;simp only at ah ai I;clear b6 HD;have bm:=show w5.cell? ⟨(w.heap.size+1),0,none⟩=some (.int .i64 r.lsn)from by rw[Aa H5.out.As];rfl
    go_cut [72] (fun x wc=>x= .bool (decide (r.lsn≤((ln:Nat):Int)))∧Bw w5 wc)
    case first=>
     have hSn:w5.drew.heap[w.heap.size+1]? =some (.cells #[r.lsn,r.prev,r.txn,r.kind,r.Ab,r.next,r.num,r.op.kind,r.op.slot,r.op.A5,r.op.new,r.how,r.root,r.e.key,r.e.Ab,r.e.slot,.slice rA rn rc,.slice rB rm rd] 47 (0,0)):=H5.out.As;have Z0:Bw w5 w5.drew:=(Below.refl _ w5).drew;have Hy:=Hq (fun(u:World) (b1:u.heap[w.heap.size+1]? =some (.cells #[r.lsn,r.prev,r.txn,r.kind,r.Ab,r.next,r.num,r.op.kind,r.op.slot,r.op.A5,r.op.new,r.how,r.root,r.e.key,r.e.Ab,r.e.slot,.slice rA rn rc,.slice rB rm rd] 47 (0,0)))=>(show u.cell? ⟨w.heap.size+1,0,none⟩=some (.int .i64 r.lsn)from(by rw[Aa b1];rfl)));refine Hw (S:=(fun u=>u.heap[w.heap.size+1]? =some (.cells #[r.lsn,r.prev,r.txn,r.kind,r.Ab,r.next,r.num,r.op.kind,r.op.slot,r.op.A5,r.op.new,r.how,r.root,r.e.key,r.e.Ab,r.e.slot,.slice rA rn rc,.slice rB rm rd] 47 (0,0)))) (fun v=>?_);generalize w5.drew=w9 at hSn Z0 ⊢;refine Be 0 ?_;refine Be 2 ?_;refine Be 3 ?_;refine D3 1 fun K hK=>?_
     go_simp
     (refine(b0.out _).mono ?_);rintro e w6 ⟨rfl,E⟩;have Z1:=Af Z0 E;have F:=Ae hSn E;clear hSn;have hSn:=F;clear F
     refine Db hK (fun v=>?_);clear hK K;refine Be 4 ?_;refine wpAnyH_done Kr ?_ _;clear v;go_wp2_with fail;go_meet
     case rel=>exact⟨rfl,Z1⟩
    case rest=>
     obtain⟨rfl,E⟩:=hcut;obtain⟨w6,rfl⟩:=ex wc;have H6:=Hq (H5.out.step E);have b2:=Hq (Ae a7.out E);have b3:=Hq (T.out.below E);clear bm E H5 a7 T b0
     by_cases U:r.lsn≤((ln:Nat):Int)
     ·rw[decide_eq_true U]
      have y:=Hq (I.out.trans (if_pos U));clear U I
      go_wp2_with(first|with_reducible refine lL b2.out Az ?_|with_reducible refine lS (Au xs q) H6.out.Cc ?_)
      refine rT2 () H6.out.Cc Az ?_;exact Z.out _ y.out _ q (b3.out.other (t:=36) H6.out.Cc (by decide) (by decide) (by decide) _) (H6.out.row 2 (Au xs q) _ rfl).below
     ·rw[decide_eq_false U]
      have aj:=Hq (I.out.trans (if_neg U));clear U I;have bn:=Hq (ah.out w6 H6.out.below);clear ah
      go_upto_region 12 with(first
       |with_reducible refine lP #[r.op.kind,r.op.slot,r.op.A5,r.op.new] H6.out.As fC ?_
       |(go_at_call 69;(refine bn.out.mono ?_);rintro e w7 ⟨rfl,ak⟩))
      have H7:=Hq (H6.out.step ak);have cb:=Hq (Ae b2.out ak);have cc:=Hq (b3.out.below ak);clear ak H6 b2 b3 bn
      by_cases O:be=0
      case neg=>
       have R:(be != 0)=true:=(by rw[bne_iff_ne];exact O);have y:=Hq (show X=⟨s,fs,be⟩from by rw[aj.out,if_pos O]);clear O aj
       go_wp2_with(first|with_reducible refine lL H7.out.Am Az ?_|with_reducible refine lS (Au s p) H7.out.Cc ?_)
       refine rT2 be H7.out.Cc Az ?_;exact au.out _ (H7.out.row 2 (Au s p) _ rfl).below be y.out
      have R:(be != 0)=false:=(by rw[O];rfl);have cd:=Hq (ai.out O);have y:=Hq (aj.out.trans (if_neg (fun l=>l O)));clear aj ai O;have bo:=Hq (fun W=>Kj b r.lsn (by have:=Hl cd.out;omega) W);have an:=Hq (fun W (hp:Ba W xs q G)=>Sx xs q G bt xk a6 (Cj b r.lsn) r.lsn W hp);rw[Bh a6,← b7.out]at an;generalize Cj b r.lsn=z at bo an y;generalize G.set xk (V9 f z r.lsn)=F2 at an y;go_upto_region 14 with fail;have hSn:w7.drew.heap[g]? =some (.cells (Au xs q) 36 (0,0))∧w7.drew.heap[w.heap.size+1]? =some (.cells #[r.lsn,r.prev,r.txn,r.kind,r.Ab,r.next,r.num,r.op.kind,r.op.slot,r.op.A5,r.op.new,r.how,r.root,r.e.key,r.e.Ab,r.e.slot,.slice rA rn rc,.slice rB rm rd] 47 (0,0)):=⟨cb.out,H7.out.As⟩;have H9:=H7.out.drew;have bp:=cc.out.below (Below.refl _ w7).drew;have Hy:=Hq (fun(u:World) (b1:u.heap[g]? =some (.cells (Au xs q) 36 (0,0))∧u.heap[w.heap.size+1]? =some (.cells #[r.lsn,r.prev,r.txn,r.kind,r.Ab,r.next,r.num,r.op.kind,r.op.slot,r.op.A5,r.op.new,r.how,r.root,r.e.key,r.e.Ab,r.e.slot,.slice rA rn rc,.slice rB rm rd] 47 (0,0)))=>(show u.cell? ⟨w.heap.size+1,0,none⟩=some (.int .i64 r.lsn)from(by rw[Aa b1.2];rfl)));refine Hw (S:=(fun u=>u.heap[g]? =some (.cells (Au xs q) 36 (0,0))∧u.heap[w.heap.size+1]? =some (.cells #[r.lsn,r.prev,r.txn,r.kind,r.Ab,r.next,r.num,r.op.kind,r.op.slot,r.op.A5,r.op.new,r.how,r.root,r.e.key,r.e.Ab,r.e.slot,.slice rA rn rc,.slice rB rm rd] 47 (0,0)))) (fun v=>?_);generalize w7.drew=w9 at hSn H9 bp ⊢;refine tkL 0 Az ?_;refine Be 1 ?_;refine Be 2 ?_;refine Be 3 ?_;refine Be 4 ?_;refine Be 6 ?_;refine Be 7 ?_;refine D3 5 fun K hK=>?_
      go_simp
      (refine(bo.out _).mono ?_);rintro e w5 ⟨rfl,L⟩;have cf:=H9.step L;have cg:=bp.below L;have F:=And.intro (Ae hSn.1 L) (Ae hSn.2 L);clear hSn;have hSn:=F;clear F
      refine Db hK (fun v=>?_);clear hK K;refine D3 8 fun K hK=>?_
      go_simp
      (refine(an.out _ cg).mono ?_);rintro e w6 ⟨q6,rfl,ch,E⟩;have H8:=cf.step E;have F:=And.intro (Ae hSn.1 E) (Ae hSn.2 E);clear hSn;have hSn:=F;clear F
      refine Db hK (fun v=>?_);clear hK K;refine D3 9 fun K hK=>?_;refine Cp (by rfl) ?_;refine sW (Au xs q6) H8.Cc ?_;have cj:=H8.row 2 (Au xs q6) _ rfl;have bq:=ch.other (t:=36) H8.Cc (by decide) (by decide) (by decide) (Au xs q6);have F:=And.intro ((Aw _ _ (Au xs q6) _ (show g≠w.heap.size+2 by omega)).trans hSn.1) ((Aw _ _ (Au xs q6) _ (show w.heap.size+1≠w.heap.size+2 by omega)).trans hSn.2);clear hSn;have hSn:=F;clear F;refine Db hK (fun v=>?_);clear hK K;refine Be 10 ?_;refine wpAnyH_done Kr ?_ _;clear v;go_wp2_with fail;refine rT2 () H8.Cc Az ?_;exact Z.out _ y.out _ q6 bq cj.below
theorem Vz.iS {n B:Nat}{f:Fr}(c:0≤f.Ab∧f.Ab<(n:Int))(d:0≤f.pins∧f.pins≤(B:Int))(e:Rc.num f.rc){b:ByteArray}(a:Bo b=true)(g:b.size≤512){l:Int}(h:Rc.num l):Vz n B (V9 f b l):=by
 refine⟨g,d,?_,c,fun _=>a,fun _=>Qt a⟩;unfold V9;simp only
 split
 ·exact h
 ·exact e
theorem Q2 {l:Int}(h:1≤l∧l<1099511627776):Rc.num l:=⟨by omega,by omega⟩
theorem Wf.image {N n B:Nat}{s:Tx.St}{fs:List Fr}(h:Wf N n B s fs)(r:Rc.Rec)(q:Im s r.Ab)(m:1≤r.lsn∧r.lsn<1099511627776):Wf N n B (Ij s fs r).s (Ij s fs r).fs∧(Ij s fs r).fs.length=fs.length:=by
 have y:=h.zp;have c:0≤r.Ab∧r.Ab<(n:Int):=by unfold Im at q;omega
 unfold Ij
 split
 ·exact⟨h,rfl⟩
 ·rename_i d
  have a:Bo r.op.new=true:=by
   cases t:Bo r.op.new with
   |true=>rfl
   |false=>exact absurd t d
  have o:=sC a;have b:(Lw r.op.new).size≤512:=Qs _ _
  split
  ·rename_i k e
   obtain⟨g,u,v⟩:=I6 e;rw[Bh g];have hF:=h.fr k g;exact⟨h.set g (Vz.iS hF.pg hF.pn hF.rc o b (Q2 m)) rfl fun _=>u,List.length_set⟩
  ·rename_i e
   obtain⟨p,i,z⟩:=h.room
   split
   ·refine⟨p.put _ (Vz.iS (f:=⟨r.Ab,⟨#[]⟩,0,false,0⟩) c ⟨Int.le_refl _,by show(0:Int)≤(B:Int);omega⟩ Jj o b (Q2 m)) (fun _ j w _ l=>fun x=>(Vg h).none_ i (Vh e) j w l x.symm),by simp only;rw[List.length_set];exact i⟩
   ·exact h.back p i
theorem Wf.iS {N n B:Nat}{s:Tx.St}{fs:List Fr}(h:Wf N n B s fs)(r:Rc.Rec)(D:ByteArray→ByteArray×Int)(l:∀ q,(D q).2=0→Bo (D q).1=true):Wf N n B (Hg s fs r D).s (Hg s fs r D).fs∧(Hg s fs r D).fs.length=fs.length:=by
 unfold Hg
 split
 ·exact⟨h,rfl⟩
 ·rename_i e
  obtain⟨_,m,f,g⟩:Ky s r:=Classical.byContradiction fun a=>e a
  split
  ·exact h.image r m ⟨f,g⟩
  ·obtain⟨b,c,o,i⟩:=h.held r.Ab
   generalize Ao s fs r.Ab=x at b c o i ⊢
   split
   ·exact⟨b,c⟩
   ·rename_i p
    obtain⟨_,j,_⟩:=i (Classical.byContradiction fun a=>p a);have d:x.2<x.1.fs.length:=(by omega);rw[Bh d]at j
    split
    ·exact⟨b,c⟩
    ·split
     ·exact⟨h,rfl⟩
     ·rename_i k
      rw[Bh d]at k ⊢;have hF:=b.fr x.2 d;have t:=Tq (l _ (Classical.byContradiction fun a=>k a)) (Q2 ⟨f,g⟩);exact⟨b.set d (Vz.iS hF.pg hF.pn hF.rc t (Qs _ _) (Q2 ⟨f,g⟩)) rfl fun _=>j,by simp only;rw[List.length_set];exact c⟩
end Go.Proofs.YtdfkambdagoojaaGreatDoor
