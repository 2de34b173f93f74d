import Derived.Test.YtdfkambdagoojaaGreatDoorHd00
import Derived.Test.YtdfkambdagoojaaGreatDoorHd09
import Derived.Test.YtdfkambdagoojaaGreatDoorHd06
import Derived.Test.YtdfkambdagoojaaGreatDoorHd08
import Derived.Test.YtdfkambdagoojaaGreatDoorHd01
import Derived.Laws.MakeOwn
set_option maxRecDepth 100000
set_option maxHeartbeats 16000000
set_option linter.unusedSimpArgs false
namespace Go.Proofs.YtdfkambdagoojaaGreatDoor
open Go.RowKit Sc
theorem Qu (s:Tx.St)(p:SP)(b:Tx.yW s)(r:Rc.Rec)(q:r.txns=[])(t:r.dirty=[])(w:World)(l:r.kind=2∨r.kind=3∨r.kind=8):
 Cr 78 #[Ar s p,.agg (Ec r (.slice none 0 0) (.slice none 0 0))] w (.tuple #[Ar {s with log:=(Lg.Bf s.log r).1} p,.int .i64 (Lg.Bf s.log r).2.1,.int .i64 (Lg.Bf s.log r).2.2]):=by
 have u:=Hq (fun W=>show Cq 127 #[Qc s.log,.agg (Ec r (.slice none 0 0) (.slice none 0 0))] W (Yx (Lg.Bf s.log r) W)from by
  have v:=fS s.log b.e0 (by have:=b.e1;omega) (by have:=b.n0;omega) (by have:=b.n1;omega) (by have:=b.t0;have:=b.e1;omega) r none none 0 0 W (cN r W q t) l;simp only[q,t,List.length_nil]at v;exact v)
 generalize Lg.Bf s.log r=x at u ⊢;go_enter Tryz.func78,Tryz.ntmps78;go_upto_region 1 with fail;have c:=Ti w (Au s p) 36 (Ec r (.slice none 0 0) (.slice none 0 0)) 47 #[(),(),(),'s',(),false,(),(),(),(),"",'s',(),'s',()] 36;obtain⟨z,d⟩:=Gz c;rw[← d]at c ⊢;clear d
 go_upto_region 2 with(first
  |with_reducible refine lP #[s.log.from_,s.log.n,s.log.end_,s.log.safe,s.log.tail] c.out.Am Ks ?_
  |with_reducible refine lL c.out.As Ca ?_
  |(go_at_call 127;(with_reducible refine(u.out _).mono ?_);rintro e f ⟨rfl,h⟩;have H1:=Hq (c.out.step h);clear h)
  |with_reducible refine sN #[x.1.from_,x.1.n,x.1.end_,x.1.safe,x.1.tail] ?_)
 have m:=Hq (H1.out.step (Ag f (.cells #[x.1.from_,x.1.n,x.1.end_,x.1.safe,x.1.tail] 30)));have y:=Hq (heap_alloc_new f (.cells #[x.1.from_,x.1.n,x.1.end_,x.1.safe,x.1.tail] 30));have o:w.heap.size+2<f.heap.size:=H1.out.lt (i:=2) (by simp);obtain⟨g,k⟩:=ex f.heap.size;obtain⟨A,a⟩:=ex (f.alloc (.cells #[x.1.from_,x.1.n,x.1.end_,x.1.safe,x.1.tail] 30));rw[← k,← a]at y;rw[← a]at m;rw[← a,← k];rw[← k]at o;clear a k c H1
 try simp only[Act.put]
 go_upto_region 3 with(first
  |with_reducible refine lL y.out Ks ?_
  |with_reducible refine lU #[x.1.from_,x.1.n,x.1.end_,x.1.safe,x.1.tail] (Au {s with log:=x.1} p) m.out.Am ?_)
 have j:=Hq (m.out.row 0 (Au {s with log:=x.1} p) _ rfl);have B:=j.out.Am
 go_wp2_with(first
  |with_reducible refine lL j.out.Am Az ?_
  |with_reducible refine lS (Au {s with log:=x.1} p) j.out.Cc ?_)
 refine rT3 (x.2.1) (x.2.2) j.out.Cc Az ?_;exact⟨rfl,(j.out.row 2 (Au {s with log:=x.1} p) _ rfl).below⟩
theorem sJ {w w':World}{A:Option Addr}{c n M:Nat}{f:List Value}(h:Reads w A c n f)(i:∀ ad,A=some ad→ad.block<M)(g:Below M w w'):Reads w' A c n f:=fun k=>by
 obtain⟨b,off,e,l,d,a⟩:=h k;exact⟨b,off,e,l,Nat.lt_of_lt_of_le d g.size,fun j v m=>by rw[g.cell (p:=⟨b,off+j,none⟩) (show b<M from i ⟨b,off,none⟩ e)];exact a j v m⟩
theorem Ba.upto {w w':World}{s:Tx.St}{p:SP}{fs:List Fr}(h:Ba w s p fs){M:Nat}(hA:∀ ad,p.A=some ad→ad.block<M)(hF:∀ ad,p.F=some ad→ad.block<M)(hb:Below M w w'){ts:List Rc.Cw}{T:Option Addr}{tc:Nat}(hT:tY w' T tc ts)(hTt:Df 0 w' 83 T):
 Ba w' {s with txns:=ts} {p with T:=T,tc:=tc} fs:=
 ⟨⟨⟨sJ h.st.dk.secs hA hb,h.st.dk.small⟩,fun ad e=>⟨(h.st.dt ad e).1,by rw[hb.block _ (hA ad e)];exact(h.st.dt ad e).2⟩,hT,hTt⟩,h.fn,sJ h.fr hF hb,fun ad e=>⟨(h.ft ad e).1,by rw[hb.block _ (hF ad e)];exact(h.ft ad e).2⟩⟩
theorem sK (a:Rc.Cw)(t:Int)(b:Nat)(w:World)(d:w.cell? ⟨b,2,none⟩=some (.int .i64 t)):Cq 77 #[.agg (yY a),.pointer (some ⟨b,0,none⟩)] w (Qo (a.txn=t) w):=by
 have k:=Hq d;have g:b<w.heap.size:=by
  rcases Nat.lt_or_ge b w.heap.size with h|h
  ·exact h
  ·rw[World.cell?,Array.getElem?_eq_none h]at d
   cases d
 have i:=show(w.alloc (.cells (yY a) 83)).cell? ⟨b,2,none⟩=some (.int .i64 t)from by rw[(Ag w (.cells (yY a) 83)).cell (p:=⟨b,2,none⟩) g];exact d
 have j:=show(w.alloc (.cells (yY a) 83)).cell? ⟨w.heap.size,0,none⟩=some (.int .i64 a.txn)from by rw[Aa (heap_alloc_new w (.cells (yY a) 83))];rfl
 clear d
 by_cases c:a.txn=t
 ·have e:=Hq (fun w' f=>gN (p:=a.txn=t) (w:=w) (w':=w') c f)
  generalize Qo (a.txn=t) w=Q at e ⊢;have f:(a.txn==t)=true:=by rw[c];exact beq_self_eq_true _
  clear c;go_enter Tryz.func77,Tryz.ntmps77;go_wp2_with fail;exact e.out _ (Ag _ _)
 ·have e:=Hq (fun w' f=>gO (p:=a.txn=t) (w:=w) (w':=w') c f)
  generalize Qo (a.txn=t) w=Q at e ⊢;have f:(a.txn==t)=false:=beq_eq_false_iff_ne.2 c;clear c;go_enter Tryz.func77,Tryz.ntmps77;go_wp2_with fail;exact e.out _ (Ag _ _)
theorem nO {s:Tx.St}{fs:List Fr}{r:Rc.Rec}{D:ByteArray→ByteArray×Int}{i:Nat}(b:(r.kind=2∨r.kind=3)∧Im s r.Ab)(hi:s.txns.findIdx? (fun a=>decide (a.txn=r.txn))=some i):
 Dy s fs r D=if ¬ (Ao s fs r.Ab).1.e=0 then(Ao s fs r.Ab).1 else
 if ¬ (D (Cz (Ao s fs r.Ab).1.fs (Ao s fs r.Ab).2).bytes).2=0 then⟨s,fs,(D (Cz (Ao s fs r.Ab).1.fs (Ao s fs r.Ab).2).bytes).2⟩else
 Tc (Ao s fs r.Ab).1 (Ao s fs r.Ab).2 i s fs r (D (Cz (Ao s fs r.Ab).1.fs (Ao s fs r.Ab).2).bytes).1:=by
 unfold Dy;rw[if_neg (fun c=>c b),hi]
theorem Qv {N n B:Nat}(s:Tx.St)(p:SP)(fs:List Fr)(hW:Wf N n B s fs)(hB:B≤1000000)(t A pg C:Int)(o:Rc.Op)(U rt:Int)(k:Rc.Key)(D:ByteArray→ByteArray×Int)(hD:∀ b,(D b).2=0→Bo (D b).1=true)(w:World)
 (ds:∀ b W,b.size≤512→Bw w W→Cr 69 #[.string b,.agg #[.int .i64 o.kind,.int .i64 o.slot,.string o.A5,.string o.new]] W (G7 (D b))) (h:Ba w s p fs):
 Cq 34 #[Ar s p,.agg #[.int .i64 0,.int .i64 0,.int .i64 t,.int .i64 A,.int .i64 pg,.int .i64 C,.int .i64 0,.int .i64 o.kind,.int .i64 o.slot,.string o.A5,.string o.new,.int .i64 U,.int .i64 rt,.string k.key,.int .i64 k.Ab,.int .i64 k.slot,.slice none 0 0,.slice none 0 0]] w (Dq (Dy s fs (⟨0,0,t,A,pg,C,0,o,U,rt,k,[],[]⟩:Rc.Rec) D) w):=by
 obtain⟨X,hX⟩:=ex (Dy s fs (⟨0,0,t,A,pg,C,0,o,U,rt,k,[],[]⟩:Rc.Rec) D);rw[← hX];have ev:=hW.zp;have a6:=Hq (fun W=>Ny s p n hW.zp pg W);have a7:=Hq (fun W (hb:Bw w W) (e:Int)=>show X=⟨s,fs,e⟩→Dq X w (.returned (.tuple #[Ar s p,.int .i64 e])) W from fun he=>by rw[he];exact⟨p,rfl,h.below hb,hb⟩)
 by_cases R:A=2∨A=3
 ·by_cases bj:0≤pg∧pg<(n:Int)
  ·rw[decide_eq_true bj]at a6
   have hh:Im s pg:=⟨bj.1,by omega⟩;have il:=hW.tl;have gf:=Hq (fun(g:Nat) W (hb:Bw w W) (hg:W.cell? ⟨g,2,none⟩=some (.int .i64 t)) (im:g<W.heap.size)=>gM (fun a=>a.txn=t) 77 #[.pointer (some ⟨g,0,none⟩)] (enters_of Tryz.func77 Kr rfl) s.txns (by omega) p.T p.tc W (h.st.tx.below hb) (fun a _ V hV=>sK a t g V (by rw[hV.cell (p:=⟨g,2,none⟩) im];exact hg)));have du:=Hq (fun W (hb:Bw w W)=>M0 s p fs hW hB pg W (h.below hb));have gg:=Hq (fun(hi:s.txns.findIdx? (fun a=>decide (a.txn=t))=none)=>show X=⟨s,fs,21⟩from by
    rw[hX];unfold Dy;rw[if_neg (fun Z=>Z ⟨R,hh⟩),hi])
   have bk:=Hq (fun(i:Nat) (hi:s.txns.findIdx? (fun a=>decide (a.txn=t))=some i)=>hX.trans (nO (s:=s) (fs:=fs) (r:=(⟨0,0,t,A,pg,C,0,o,U,rt,k,[],[]⟩:Rc.Rec)) (D:=D) ⟨R,hh⟩ hi));have ca:=hW.held pg;have b8:=(Xk s fs pg).1;have HD:=Hq hD;have gh:=Hq ds;have dv:=Hq (fun(Y:Px) (he:X=Y) w' (q:SP) (hp:Ba w' Y.s q Y.fs) (hb:Bw w w')=>show Dq X w (.returned (.tuple #[Ar Y.s q,.int .i64 Y.e])) w' from by rw[he];exact⟨q,rfl,hp,hb⟩);have iq:=hW.n1.2.2;have jd:=hW.nf;clear h hX hW hD ds hh bj ev;generalize Dq X w=Q at a7 dv ⊢;generalize Ao s fs pg=r at du bk ca b8;obtain⟨⟨xs,l,xe⟩,xk⟩:=r;simp only at du bk ca b8;have cb:xk<l.length:=(by omega);have ir:l.length≤100:=(by omega);have b1:=ca.2.2.2;rw[Bh cb]at bk b1;have cc:=Hq ca.1;have ew:=Hq b1;have ec:=Hq b8;clear ca b1 b8;obtain⟨f,dw⟩:=ex (l[xk]);rw[← dw]at bk ew;have gi:=Hq dw;have ed:f.bytes.size≤512:=(by rw[dw];exact(cc.out.fr xk cb).sz);clear dw;go_enter Tryz.func34,Tryz.ntmps34;go_upto_region 1 with fail;have G:=Ti w (Au s p) 36 #[.int .i64 0,.int .i64 0,.int .i64 t,.int .i64 A,.int .i64 pg,.int .i64 C,.int .i64 0,.int .i64 o.kind,.int .i64 o.slot,.string o.A5,.string o.new,.int .i64 U,.int .i64 rt,.string k.key,.int .i64 k.Ab,.int .i64 k.slot,.slice none 0 0,.slice none 0 0] 47 #[.int .i64 0,.int .i64 0,.int .i64 0,.slice none 0 0,.int .i64 0,.bool false,.int .i64 0,.int .i64 0,.int .i64 0,.int .i64 0,.string ⟨#[]⟩,.slice none 0 0,.int .i64 0,.slice none 0 0,.int .i64 0] 36;obtain⟨W0,af⟩:=Gz G;rw[← af]at G ⊢;clear af;have dx:=show W0.cell? ⟨(w.heap.size+1),3,none⟩=some (.int .i64 A)from(by rw[Aa G.out.As];rfl);have bl:=show W0.cell? ⟨(w.heap.size+1),4,none⟩=some (.int .i64 pg)from(by rw[Aa G.out.As];rfl);have gj:=Hq R
   go_cut [27] (fun x wc=>x= .bool false∧Bw W0 wc)
   case first=>
    rcases R with rfl|rfl
    ·go_wp2_with(first|with_reducible refine lL G.out.Am Az ?_|(go_at_call 65;refine(a6.out _).mono ?_;rintro e w1 ⟨rfl,b2⟩))
     go_meet
     case rel=>exact⟨rfl,b2⟩
    ·go_wp2_with(first|with_reducible refine lL G.out.Am Az ?_|(go_at_call 65;refine(a6.out _).mono ?_;rintro e w1 ⟨rfl,b2⟩))
     go_meet
     case rel=>exact⟨rfl,b2⟩
   case rest=>
    obtain⟨rfl,cd⟩:=hcut;obtain⟨w1,rfl⟩:=ex wc;have H1:=Hq (G.out.step cd);have H:=show w1.cell? ⟨w.heap.size,13,none⟩=some (.slice p.T s.txns.length p.tc)from(by rw[Aa H1.out.Am];rfl);have gk:=Hq (gf.out (w.heap.size+1) w1 H1.out.below (by rw[Aa H1.out.As];rfl) (H1.out.lt (i:=1) (by simp)));clear dx bl cd a6 G gf R
    go_upto_region 4 with(go_at_call 76;(refine gk.out.mono ?_);rintro e w2 ⟨kk,rfl,hq,gl⟩;have H2:=Hq (H1.out.step gl))
    clear gl H1 gk H;rcases hq with⟨rfl,hq⟩|⟨i,hi,rfl,gm,gn⟩
    ·have gp:(-1:Int)<0:=by decide
     have iu:=Hq (gg.out (Vd fun x hx=>by simpa using hq x hx));clear hq
     go_wp2_with(first|with_reducible refine lL H2.out.Am Az ?_|with_reducible refine lS (Au s p) H2.out.Cc ?_)
     refine rT2 (.int .i64 21) H2.out.Cc Az ?_;exact a7.out _ (H2.out.row 2 (Au s p) _ rfl).below 21 iu.out
    have je:¬ (i:Int)<0:=(by omega);have dy:=Hq (bk.out i (Ve hi (by simpa using gm) fun j hj iv=>by simpa using gn j iv));have bl:=show w2.cell? ⟨(w.heap.size+1),4,none⟩=some (.int .i64 pg)from(by rw[Aa H2.out.As];rfl);clear gm gn bk gg
    go_upto_region 7 with(first
     |with_reducible refine lL H2.out.Am Az ?_
     |(go_at_call 67;refine(du.out _ H2.out.below).mono ?_;rintro e w4 ⟨q,rfl,gq,dz⟩)
     |with_reducible refine sN (Au xs q) ?_)
    have gr:=dz.trans ((Ag w4 (.cells (Au xs q) 36)).mono dz.size);have H5:=Hq (H2.out.step gr);have bm:=Hq (heap_alloc_new w4 (.cells (Au xs q) 36));have bn:=Hq (gq.below (Ag w4 (.cells (Au xs q) 36)));have iw:(w.heap.size+2)<w4.heap.size:=Nat.lt_of_lt_of_le (H2.out.lt (i:=2) (by simp)) dz.size;obtain⟨g,hg⟩:=ex w4.heap.size;obtain⟨w5,e0⟩:=ex (w4.alloc (.cells (Au xs q) 36));rw[← hg,← e0]at bm;rw[← e0]at H5 bn;rw[← e0,← hg];rw[← hg]at iw;clear e0 hg dz gr gq H2 du bl
    try simp only[Act.put]
    by_cases bo:xe=0
    case neg=>
     have gu:(xe != 0)=true:=(by rw[bne_iff_ne];exact bo);have I:=Hq (show X=⟨xs,l,xe⟩from by rw[dy.out,if_pos bo]);clear bo dy
     go_wp2_with(first|with_reducible refine lL bm.out Az ?_|with_reducible refine lS (Au xs q) H5.out.Cc ?_)
     refine rT2 (.int .i64 xe) H5.out.Cc Az ?_;exact dv.out _ I.out _ q (bn.out.other (t:=36) H5.out.Cc (by decide) (by decide) (by decide) _) (H5.out.row 2 (Au xs q) _ rfl).below
    have gu:(xe != 0)=false:=(by rw[bo];rfl);have jf:=Hq (ew.out bo);have bp:=Hq (show X=if ¬ (D f.bytes).2=0 then⟨s,fs,(D f.bytes).2⟩else Tc ⟨xs,l,xe⟩ xk i s fs (⟨0,0,t,A,pg,C,0,o,U,rt,k,[],[]⟩:Rc.Rec) (D f.bytes).1 from by rw[dy.out,if_neg (fun Z=>Z bo)]);clear dy ew;have jb:(0:Int)≤(xk:Int):=(by omega);have jg:(xk:Int)<(l.length:Int):=(by omega);obtain⟨ey,cf,ez,ix,gv,b3⟩:=Cv E3 bn.out.fr cb;rw[← gi.out]at b3;have gw:=Hq (show w5.rangeAt ey (cf+xk*5) (Me f)from b3);have gx:=show w5.cell? ⟨g,11,none⟩=some (.slice (some ⟨ey,cf,none⟩) l.length q.fc)from(by rw[Aa bm.out,← ez,← bn.out.fn];rfl);have gy:∀ ad,q.F=some ad→ad.block<w5.heap.size:=fun ad e=>by rw[ez]at e;injection e with e;subst e;exact gv
    have e1:=Hq gy;clear b3 ix gv ez gy
    go_upto_region 10 with(first
     |(refine Dr Kr fun K hK=>wp_load_mid 95 (.tmp 52) rfl ey (cf+xk*5) rfl (Me f) _ gw.out J5 Kr Kr (hK _ _ ?_))
     |with_reducible refine sN (Gc f) ?_)
    have e2:=Ag w5 (.cells (Gc f) 95);have H6:=Hq (H5.out.step e2);have e5:=Hq (heap_alloc_new w5 (.cells (Gc f) 95));have fa:=Hq (Ae bm.out e2);have fe:=Hq (bn.out.below e2);have gz:g<w5.heap.size:=C8 bm.out;obtain⟨g2,e6⟩:=ex w5.heap.size;obtain⟨w6,e7⟩:=ex (w5.alloc (.cells (Gc f) 95));rw[← e6,← e7]at e5;rw[← e7]at H6 fa fe;rw[← e7,← e6];rw[← e6]at gz e1;clear e7 e6 e2 H5 bm bn gw gx gu
    try simp only[Act.put]
    have cg:=Hq (gh.out f.bytes w6 ed H6.out.below);have e8:=Hq (HD.out f.bytes);generalize D f.bytes=bd at cg e8 bp;obtain⟨b,be⟩:=bd;simp only at cg e8 bp;have h0:=Hq (show ∃ fb,fb=f.bytes from⟨_,rfl⟩);obtain⟨fb,ff⟩:=h0.out;rw[← ff]at cg ed;have ch:=Hq ff;clear h0 ff HD gh;have fg:=show w6.cell? ⟨g2,1,none⟩=some (.string fb)from by rw[Aa e5.out,ch.out];rfl
    go_upto_region 11 with(first
     |with_reducible refine lP #[.int .i64 o.kind,.int .i64 o.slot,.string o.A5,.string o.new] H6.out.As fC ?_
     |(go_at_call 69;(refine cg.out.mono ?_);rintro e w7 ⟨rfl,cj⟩))
    have H7:=Hq (H6.out.step cj);have ck:=Hq (Ae fa.out cj);have bq:=Hq (Ae e5.out cj);have e9:=Hq (fe.out.below cj);clear fg cj H6 fa e5 fe cg
    by_cases ag:be=0
    case neg=>
     have iy:(be != 0)=true:=(by rw[bne_iff_ne];exact ag);have I:=Hq (show X=⟨s,fs,be⟩from by rw[bp.out,if_pos ag]);clear ag bp
     go_wp2_with(first|with_reducible refine lL H7.out.Am Az ?_|with_reducible refine lS (Au s p) H7.out.Cc ?_)
     refine rT2 (.int .i64 be) H7.out.Cc Az ?_;exact a7.out _ (H7.out.row 2 (Au s p) _ rfl).below be I.out
    have iy:(be != 0)=false:=(by rw[ag];rfl);have iz:=Hq (e8.out ag);have j0:=Hq ag;have br:=Hq (show X=(if ¬ (Hf xs f pg).2.2=0 then(⟨s,fs,(Hf xs f pg).2.2⟩:Px)else
     if ¬ (Lg.Bf (Hf xs f pg).1 (⟨0,(Lc xs.txns i).last,t,A,pg,C,0,o,U,rt,k,[],[]⟩:Rc.Rec)).2.2=0 then⟨s,fs,(Lg.Bf (Hf xs f pg).1 (⟨0,(Lc xs.txns i).last,t,A,pg,C,0,o,U,rt,k,[],[]⟩:Rc.Rec)).2.2⟩else
     ⟨{xs with log:=(Lg.Bf (Hf xs f pg).1 (⟨0,(Lc xs.txns i).last,t,A,pg,C,0,o,U,rt,k,[],[]⟩:Rc.Rec)).1,txns:=xs.txns.set i {Lc xs.txns i with last:=(Lg.Bf (Hf xs f pg).1 (⟨0,(Lc xs.txns i).last,t,A,pg,C,0,o,U,rt,k,[],[]⟩:Rc.Rec)).2.1,next:=if A=3 then C else(Lg.Bf (Hf xs f pg).1 (⟨0,(Lc xs.txns i).last,t,A,pg,C,0,o,U,rt,k,[],[]⟩:Rc.Rec)).2.1}},l.set xk ⟨f.Ab,Cj b (Lg.Bf (Hf xs f pg).1 (⟨0,(Lc xs.txns i).last,t,A,pg,C,0,o,U,rt,k,[],[]⟩:Rc.Rec)).2.1,f.pins,true,(Hf xs f pg).2.1⟩,0⟩)from by
     rw[bp.out,if_neg (fun Z=>Z ag)];unfold Tc;simp only;rw[Bh cb,← gi.out])
    have bs:=Hq (show Zc N (Hf xs f pg).1∧(f.rc=0→Hf xs f pg=Lg.Bf xs.log (⟨0,0,0,8,pg,0,0,⟨7,0,⟨#[]⟩,fb⟩,0,0,Rc.D6,[],[]⟩:Rc.Rec))∧(¬ f.rc=0→Hf xs f pg=(xs.log,f.rc,0))from by
     unfold Hf
     split
     ·rename_i hr
      exact⟨cc.out.low.append _,(fun _=>by rw[ch.out];rfl),fun Z=>absurd hr Z⟩
     ·rename_i hr
      exact⟨cc.out.low,(fun Z=>absurd Z hr),fun _=>rfl⟩)
    clear ag bp e8;generalize Hf xs f pg=m at br bs;obtain⟨l3,y,e3⟩:=m;simp only at br bs;have h2:=show w7.cell? ⟨g2,4,none⟩=some (.int .i64 f.rc)from(by rw[Aa bq.out];rfl);go_upto_if 68 with fail
    go_cut [9] (fun x wc=>x= .int .i64 0∧e3=0∧Fc w.heap.size w [((Au s p),36),(#[.int .i64 0,.int .i64 0,.int .i64 t,.int .i64 A,.int .i64 pg,.int .i64 C,.int .i64 0,.int .i64 o.kind,.int .i64 o.slot,.string o.A5,.string o.new,.int .i64 U,.int .i64 rt,.string k.key,.int .i64 k.Ab,.int .i64 k.slot,.slice none 0 0,.slice none 0 0],47),(#[.int .i64 0,.int .i64 0,.int .i64 0,.slice none 0 0,.int .i64 0,.bool false,.int .i64 0,.int .i64 0,.int .i64 0,.int .i64 0,.string ⟨#[]⟩,.slice none 0 0,.int .i64 0,.slice none 0 0,.int .i64 0],36)] wc∧wc.heap[g]? =some (.cells (Au {xs with log:=l3} q) 36 (0,0))∧wc.heap[g2]? =some (.cells (Gc {f with rc:=y}) 95 (0,0))∧Ba wc {xs with log:=l3} q l)
    case first=>
     by_cases bt:f.rc=0
     ·have j1:(f.rc==0)=true:=by rw[bt];rfl
      have a8:=Hq (fun W=>show Cq 78 #[Ar xs q,.agg #[.int .i64 0,.int .i64 0,.int .i64 0,.int .i64 8,.int .i64 pg,.int .i64 0,.int .i64 0,.int .i64 7,.int .i64 0,.string ⟨#[]⟩,.string fb,.int .i64 0,.int .i64 0,.string ⟨#[]⟩,.int .i64 0,.int .i64 0,.slice none 0 0,.slice none 0 0]] W _ from Qu xs q cc.out.lb (⟨0,0,0,8,pg,0,0,⟨7,0,⟨#[]⟩,fb⟩,0,0,Rc.D6,[],[]⟩:Rc.Rec) rfl rfl W (.inr (.inr rfl)));rw[← bs.out.2.1 bt]at a8;dsimp only at a8;have fh:=show w7.cell? ⟨(w.heap.size+1),4,none⟩=some (.int .i64 pg)from(by rw[Aa H7.out.As];rfl);have fg:=show w7.cell? ⟨g2,1,none⟩=some (.string fb)from(by rw[Aa bq.out,ch.out];rfl);clear bt
      go_upto_region 15 with(first
       |with_reducible refine lL ck.out Az ?_
       |(go_at_call 78;refine(a8.out _).mono ?_;rintro e w8 ⟨rfl,cm⟩;have H8:=Hq (H7.out.step cm);have ah:=Hq (Ae ck.out cm);have cn:=Hq (Ae bq.out cm);have bu:=Hq (e9.out.below cm);have aa:=Hq ((Aw w8 g (Au {xs with log:=l3} q) g2 (by omega)).trans cn.out);have j2:=show(w8.setRow g (Au {xs with log:=l3} q)).cell? ⟨g2,4,none⟩=some (.int .i64 f.rc)from(by rw[Aa aa.out];rfl);have j3:=Aj aa.out 4)
       |with_reducible refine lS (Au {xs with log:=l3} q) ah.out ?_)
      have h3:=Mf (g:=g) (Nat.le_refl g) (show Below g w8 w8 from⟨rfl,rfl,rfl,Nat.le_refl _,fun _ _=>rfl⟩) (Au {xs with log:=l3} q);have H9:=Hq (H8.out.under (M:=g) (by simp;omega) h3);have b4:=Hq (setRow_heap _ _ _ (Au {xs with log:=l3} q) _ _ ah.out);have bw:=Hq (show Ba (w8.setRow g (Au {xs with log:=l3} q)) {xs with log:=l3} q l from by have h1:=bu.out.other (t:=36) ah.out (by decide) (by decide) (by decide) (Au {xs with log:=l3} q);exact⟨⟨h1.st.dk,h1.st.dt,h1.st.tx,h1.st.tt⟩,h1.fn,h1.fr,h1.ft⟩);have ae:=Hq (H9.out.under (M:=g2) (by simp;omega) ((Below.refl _ _).setCell (p:=⟨g2,4,none⟩) (Nat.le_refl _) (.int .i64 y)));have J:=Hq (show((w8.setRow g (Au {xs with log:=l3} q)).setCell ⟨g2,4,none⟩ (.int .i64 y)).heap[g]? =some (.cells (Au {xs with log:=l3} q) 36 (0,0))from by rw[Below.heap_setCell _ _ _ _ (by show g≠g2;omega)];exact b4.out);have ai:=Hq (show((w8.setRow g (Au {xs with log:=l3} q)).setCell ⟨g2,4,none⟩ (.int .i64 y)).heap[g2]? =some (.cells (Gc {f with rc:=y}) 95 (0,0))from by have:=Cb 4 aa.out (.int .i64 y);simpa using this);have aj:=Hq (bw.out.own aa.out (fun ad e=>by have:=e1.out ad e;omega) 4 (.int .i64 y));generalize (w8.setRow g (Au {xs with log:=l3} q)).setCell ⟨g2,4,none⟩ (.int .i64 y)=bx at ae J ai aj ⊢;clear H7 ck bq e9 h2 H8 ah cn bu aa H9 b4 bw h3 cm j2 j3 fh fg
      try simp only[Act.put]
      by_cases bz:e3=0
      ·have h4:(e3 != 0)=false:=by rw[bz];rfl
       have HE:=Hq bz;clear bz;go_wp2_with fail;go_meet
       case rel=>exact⟨congrArg (Value.int .i64) HE.out,HE.out,ae.out,J.out,ai.out,aj.out⟩
      ·have h4:(e3 != 0)=true:=by rw[bne_iff_ne];exact bz
       have I:=Hq (show X=⟨s,fs,e3⟩from by rw[br.out,if_pos bz]);clear bz br
       go_wp2_with(first|with_reducible refine lL ae.out.Am Az ?_|with_reducible refine lS (Au s p) ae.out.Cc ?_)
       refine rT2 (.int .i64 e3) ae.out.Cc Az ?_;exact a7.out _ (ae.out.row 2 (Au s p) _ rfl).below e3 I.out
     ·have j1:(f.rc==0)=false:=beq_eq_false_iff_ne.2 bt
      have hm:=bs.out.2.2 bt
      injection hm with gp hm
      injection hm with j4 j5
      subst gp j4 j5;clear bt;go_wp2_with fail;go_meet
      case rel=>exact⟨congrArg (Value.int .i64) j0.out,(by first|trivial|rfl),H7.out,ck.out,bq.out,e9.out⟩
    case rest=>
     obtain⟨rfl,ee,h8,h5,h6,h7⟩:=hcut;obtain⟨w8,rfl⟩:=ex wc;have H8:=Hq h8;have ah:=Hq h5;have cn:=Hq h6;have bu:=Hq h7;have cp:i<xs.txns.length:=(by rw[ec.out];exact hi);have jh:(i:Int)<(xs.txns.length:Int):=(by omega);have jc:(0:Int)≤(i:Int):=(by omega);have fi:=br.out;rw[if_neg (fun Z=>Z ee),kF cp]at fi;have ak:=Hq fi;clear h8 h5 h6 h7 H7 ck bq e9 h2 fi br ee;obtain⟨tb,h9,ha,j6,hc,b9⟩:=Cv Ic bu.out.st.tx cp;obtain⟨tv,ea⟩:=ex (xs.txns[i]);rw[← ea]at ak;have hd:=Hq ea;have hf:=b9 1 (.int .i64 tv.last) (by rw[ea];rfl);have H:=show w8.cell? ⟨g,13,none⟩=some (.slice (some ⟨tb,h9,none⟩) xs.txns.length q.tc)from(by rw[Aa ah.out,← ha];rfl);have fj:=show w8.cell? ⟨(w.heap.size+1),1,none⟩=some (.int .i64 0)from(by rw[Aa H8.out.As];rfl);have fk:=Aj H8.out.As 1;clear b9 j6 hc ha ea;obtain⟨pv,hl⟩:=ex tv.last;rw[← hl]at hf ak;clear hl;go_upto_region 18 with fail;have H9:=Hq (show Fc w.heap.size w [((Au s p),36),(#[.int .i64 0,.int .i64 pv,.int .i64 t,.int .i64 A,.int .i64 pg,.int .i64 C,.int .i64 0,.int .i64 o.kind,.int .i64 o.slot,.string o.A5,.string o.new,.int .i64 U,.int .i64 rt,.string k.key,.int .i64 k.Ab,.int .i64 k.slot,.slice none 0 0,.slice none 0 0],47),(#[.int .i64 0,.int .i64 0,.int .i64 0,.slice none 0 0,.int .i64 0,.bool false,.int .i64 0,.int .i64 0,.int .i64 0,.int .i64 0,.string ⟨#[]⟩,.slice none 0 0,.int .i64 0,.slice none 0 0,.int .i64 0],36)] (w8.setCell ⟨(w.heap.size+1),1,none⟩ (.int .i64 pv))from H8.out.set 1 1 (.int .i64 pv) _ rfl);have b4:=Hq (show(w8.setCell ⟨(w.heap.size+1),1,none⟩ (.int .i64 pv)).heap[g]? =some (.cells (Au {xs with log:=l3} q) 36 (0,0))from by rw[Below.heap_setCell _ _ _ _ (by show g≠(w.heap.size+1);omega)];exact ah.out);have aa:=Hq (show(w8.setCell ⟨(w.heap.size+1),1,none⟩ (.int .i64 pv)).heap[g2]? =some (.cells (Gc {f with rc:=y}) 95 (0,0))from by rw[Below.heap_setCell _ _ _ _ (by show g2≠(w.heap.size+1);omega)];exact cn.out);have bw:=Hq (bu.out.set H8.out.As (by decide) (by decide) (by decide) 1 (.int .i64 pv));generalize w8.setCell ⟨(w.heap.size+1),1,none⟩ (.int .i64 pv)=w9 at H9 b4 aa bw ⊢;clear H fj fk hf H8 ah cn bu;have a8:=Hq (fun W=>show Cq 78 #[Ar {xs with log:=l3} q,.agg #[.int .i64 0,.int .i64 pv,.int .i64 t,.int .i64 A,.int .i64 pg,.int .i64 C,.int .i64 0,.int .i64 o.kind,.int .i64 o.slot,.string o.A5,.string o.new,.int .i64 U,.int .i64 rt,.string k.key,.int .i64 k.Ab,.int .i64 k.slot,.slice none 0 0,.slice none 0 0]] W _ from Qu {xs with log:=l3} q (cc.out.log bs.out.1).lb (⟨0,pv,t,A,pg,C,0,o,U,rt,k,[],[]⟩:Rc.Rec) rfl rfl W (gj.out.imp id .inl));have hs:=Hq (Vi bs.out.1 iq (⟨0,pv,t,A,pg,C,0,o,U,rt,k,[],[]⟩:Rc.Rec));dsimp only at a8;generalize Lg.Bf l3 (⟨0,pv,t,A,pg,C,0,o,U,rt,k,[],[]⟩:Rc.Rec)=a at a8 ak hs;obtain⟨E,d,e4⟩:=a;simp only at a8 ak hs
     go_upto_region 19 with(first
      |with_reducible refine lL b4.out Az ?_
      |with_reducible refine lL H9.out.As Ca ?_
      |(go_at_call 78;refine(a8.out _).mono ?_;rintro e bx ⟨rfl,an⟩;have ae:=Hq (H9.out.step an);have J:=Hq (Ae b4.out an);have ai:=Hq (Ae aa.out an);have aj:=Hq (bw.out.below an);clear an)
      |with_reducible refine lS (Au {xs with log:=E} q) J.out ?_)
     have b5:=Hq (ae.out.under (M:=g) (by simp;omega) (Mf (g:=g) (Nat.le_refl g) (show Below g bx bx from⟨rfl,rfl,rfl,Nat.le_refl _,fun _ _=>rfl⟩) (Au {xs with log:=E} q)));have cq:=Hq (setRow_heap _ _ _ (Au {xs with log:=E} q) _ _ J.out);have cr:=Hq ((Aw bx g (Au {xs with log:=E} q) g2 (by omega)).trans ai.out);have ct:=Hq (show Ba (bx.setRow g (Au {xs with log:=E} q)) {xs with log:=E} q l from by have h1:=aj.out.other (t:=36) J.out (by decide) (by decide) (by decide) (Au {xs with log:=E} q);exact⟨⟨h1.st.dk,h1.st.dt,h1.st.tx,h1.st.tt⟩,h1.fn,h1.fr,h1.ft⟩);generalize bx.setRow g (Au {xs with log:=E} q)=w11 at b5 cq cr ct ⊢;clear H9 b4 aa bw ae J ai aj a8
     try simp only[Act.put]
     by_cases c6:e4=0
     case neg=>
      have ht:(e4 != 0)=true:=(by rw[bne_iff_ne];exact c6);have I:=Hq (show X=⟨s,fs,e4⟩from by rw[ak.out,if_pos c6]);clear c6 ak
      go_wp2_with(first|with_reducible refine lL b5.out.Am Az ?_|with_reducible refine lS (Au s p) b5.out.Cc ?_)
      refine rT2 (.int .i64 e4) b5.out.Cc Az ?_;exact a7.out _ (b5.out.row 2 (Au s p) _ rfl).below e4 I.out
     have ht:(e4 != 0)=false:=(by rw[c6];rfl);have fl:=ak.out;rw[if_neg (fun Z=>Z c6)]at fl;have fm:=Hq fl;clear c6 fl ak;have fo:=Hq (fun W=>Kj b d (by have:=Hl iz.out;omega) W);generalize Cj b d=z at fo fm
     go_upto_region 22 with(go_at_call 71;refine(fo.out _).mono ?_;rintro e ao ⟨rfl,aq⟩;have hv:=Hq (b5.out.step aq);have ef:=Hq (Ae cq.out aq);have ar:=Hq (Ae cr.out aq);have eg:=Hq (ct.out.below aq);have au:=Hq (Cb 1 ar.out (.string z));have fj:=show ao.cell? ⟨g2,1,none⟩=some (.string f.bytes)from(by rw[Aa ar.out];rfl);have fk:=Aj ar.out 1;have j7:=show(ao.setCell ⟨g2,1,none⟩ (.string z)).cell? ⟨g2,3,none⟩=some (.bool f.mark)from(by rw[Aa au.out];rfl);have j8:=Aj au.out 3)
     have cu:=Hq (show((ao.setCell ⟨g2,1,none⟩ (.string z)).setCell ⟨g2,3,none⟩ (.bool true)).heap[g2]? =some (.cells (Gc ⟨f.Ab,z,f.pins,true,y⟩) 95 (0,0))from by have:=Cb 3 au.out (.bool true);simpa using this);have cv:Below g2 ao ((ao.setCell ⟨g2,1,none⟩ (.string z)).setCell ⟨g2,3,none⟩ (.bool true)):=((show Below g2 ao ao from⟨rfl,rfl,rfl,Nat.le_refl _,fun _ _=>rfl⟩).setCell (p:=⟨g2,1,none⟩) (Nat.le_refl _) (.string z)).setCell (p:=⟨g2,3,none⟩) (Nat.le_refl _) (.bool true);have fp:=Hq (hv.out.under (M:=g2) (by simp;omega) cv);have ba:=Hq ((cv.block g (by omega)).trans ef.out);have cw:=Hq (((eg.out.own ar.out (fun ad e=>by have:=e1.out ad e;omega) 1 (.string z))).own au.out (fun ad e=>by have:=e1.out ad e;omega) 3 (.bool true));generalize (ao.setCell ⟨g2,1,none⟩ (.string z)).setCell ⟨g2,3,none⟩ (.bool true)=w14 at fp ba cu cw ⊢;clear b5 cq cr ct hv ef ar eg au fj fk j7 j8 aq cv fo;have hz:=Hq (fun W hp=>Ht {xs with log:=E} q l ir xk cb ⟨f.Ab,z,f.pins,true,y⟩ W hp)
     go_upto_region 23 with(first
      |with_reducible refine lL ba.out Az ?_
      |with_reducible refine lL cu.out J5 ?_
      |(go_at_call 75;refine(hz.out _ cw.out).mono ?_;rintro e fq ⟨P,rfl,eh,cx⟩;have ia:=Hq (fp.out.step cx);have bb:=Hq (Ae ba.out cx))
      |with_reducible refine lS (Au {xs with log:=E} P) bb.out ?_)
     have fu:=Hq (ia.out.under (M:=g) (by simp;omega) (Mf (g:=g) (Nat.le_refl g) (show Below g fq fq from⟨rfl,rfl,rfl,Nat.le_refl _,fun _ _=>rfl⟩) (Au {xs with log:=E} P)));have av:=Hq (setRow_heap _ _ _ (Au {xs with log:=E} P) _ _ bb.out);have a1:=Hq (eh.other (t:=36) bb.out (by decide) (by decide) (by decide) (Au {xs with log:=E} P));generalize fq.setRow g (Au {xs with log:=E} P)=w16 at fu av a1 ⊢;clear fp ba cu cw ia bb eh cx hz
     try simp only[Act.put]
     have H:=show w16.cell? ⟨g,13,none⟩=some (.slice P.T xs.txns.length P.tc)from(by rw[Aa av.out];rfl);have ji:xs.txns.length≤800000:=(by rw[ec.out];exact il);have cy:=Hq (And.intro a1.out.st.dt.lt a1.out.ft.lt);have ib:=Hq (gF xs.txns (by omega) P.T P.tc w16 a1.out.st.tx)
     go_upto_region 24 with(go_at_call 79;(refine ib.out.mono ?_);rintro e cz ⟨v,rfl,ho,bc⟩;obtain⟨g4,c4,rfl,eb⟩:=Za ho (by omega);have ic:=Hq (fu.out.step bc);have aw:=Hq (Ae av.out bc);have ie:=show cz.cell? ⟨g,13,none⟩=some (.slice P.T xs.txns.length P.tc)from(by rw[Aa aw.out];rfl);have ig:=Aj aw.out 13)
     have ax:g<w16.heap.size:=C8 av.out;have jj:g<g4:=(by omega);have ih:=Hq (ic.out.under (M:=g) (by simp;omega) ((show Below g cz cz from⟨rfl,rfl,rfl,Nat.le_refl _,fun _ _=>rfl⟩).setCell (p:=⟨g,13,none⟩) (Nat.le_refl _) (.slice (some ⟨g4,0,none⟩) xs.txns.length c4)));have da:=Hq (show(cz.setCell ⟨g,13,none⟩ (.slice (some ⟨g4,0,none⟩) xs.txns.length c4)).heap[g]? =some (.cells (Au {xs with log:=E} {P with T:=some ⟨g4,0,none⟩,tc:=c4}) 36 (0,0))from by have:=Cb 13 aw.out (.slice (some ⟨g4,0,none⟩) xs.txns.length c4);simpa using this);have db:=Hq (Lq ho ⟨g,13,none⟩ (.slice (some ⟨g4,0,none⟩) xs.txns.length c4) ax);have ei:=Hq (a1.out.below bc);have dc:=Hq (ei.out.set aw.out (by decide) (by decide) (by decide) 13 (.slice (some ⟨g4,0,none⟩) xs.txns.length c4));generalize cz.setCell ⟨g,13,none⟩ (.slice (some ⟨g4,0,none⟩) xs.txns.length c4)=ay at ih da db dc ⊢;clear H ie ig fu av a1 ic aw ei ib ho bc;generalize w16.heap.size=M at db eb ax cy
     try simp only[Act.put]
     obtain⟨y1,fv⟩:=ex ({xs.txns[i]with last:=d}:Rc.Cw);obtain⟨y2,fw⟩:=ex ({y1 with next:=d}:Rc.Cw);have fx:i<(xs.txns.set i y1).length:=(by rw[List.length_set];exact cp);have dd:P8 y2=(P8 (xs.txns.set i y1)[i]).set 2 (.int .i64 d):=(by rw[List.getElem_set_self,fw];rfl);have de:P8 y1=(P8 xs.txns[i]).set 1 (.int .i64 d):=(by rw[fv];rfl);have ij:=Hq (show(xs.txns.set i y1).set i y2=xs.txns.set i {xs.txns[i]with last:=d,next:=d}from by rw[List.set_set,fw,fv]);clear fv fw
     go_cut [128] (fun x wc=>∃ ts,ts=(xs.txns.set i y1).set i y2∧wc.ownsRow M 83 4 (.slice (some ⟨g4,0,none⟩) xs.txns.length c4) xs.txns.length (ts.flatMap P8)∧Below M ay wc)
     case first=>
      have hQ:Below M ay ay.drew:=(show Below M ay ay from⟨rfl,rfl,rfl,Nat.le_refl _,fun _ _=>rfl⟩).drew;have hO:=Ce db.out (Below.refl _ ay).drew;have fy:=Hq (fun(u:World) (hu:Below M ay u)=>show u.cell? ⟨g,13,none⟩=some (.slice (some ⟨g4,0,none⟩) xs.txns.length c4)from by rw[hu.cell (p:=⟨g,13,none⟩) ax,Aa da.out];rfl);have hSn:=fy.out _ hQ;refine Hw (S:=(fun u=>u.cell? ⟨g,13,none⟩=some (.slice (some ⟨g4,0,none⟩) xs.txns.length c4))) (fun b6=>?_);generalize ay.drew=w8 at hSn hO hQ ⊢;refine Be 0 ?_ (hy:=by
       intro u c;have O:=c;clear c;go_simp;(try with_reducible rfl))
      refine Be 1 ?_ (hy:=by
       intro u c;have O:=c;clear c;go_simp;(try with_reducible rfl))
      refine Be 2 ?_ (hy:=by
       intro u c;have O:=c;clear c;go_simp;(try with_reducible rfl))
      refine Be 3 ?_ (hy:=by
       intro u c;have O:=c;clear c;go_simp;(try with_reducible rfl))
      refine Be 4 ?_ (hy:=by
       intro u c;have O:=c;clear c;go_simp;(try with_reducible rfl))
      refine Be 5 ?_ (hy:=by
       intro u c;have O:=c;clear c;go_simp;(try with_reducible rfl))
      refine Be 6 ?_ (hy:=by
       intro u c;have O:=c;clear c;go_simp;(try with_reducible rfl))
      refine Be 7 ?_ (hy:=by
       intro u c;have O:=c;clear c;go_simp;(try with_reducible rfl))
      refine Be 8 ?_ (hy:=by
       intro u c;have O:=c;clear c;go_simp;(try with_reducible rfl))
      refine Be 9 ?_ (hy:=by
       intro u c;have O:=c;clear c;go_simp;(try with_reducible rfl))
      refine D3 10 fun K hK=>?_;obtain⟨c7,df,az⟩:=gG hO rfl i cp 1 (by omega) (.int .i64 d) y1 de;have dh:=hQ.setCell (p:=⟨g4,i*4+1,none⟩) eb (.int .i64 d)
      go_simp
      clear hSn hO hQ c7 df;have hQ:=dh;have hO:=az;clear dh az;generalize w8.setCell ⟨g4,i*4+1,none⟩ (.int .i64 d)=w3 at hQ hO ⊢;have hSn:=fy.out _ hQ;refine Db hK (fun b6=>?_);clear hK K;refine Be 11 ?_ (hy:=by
       intro u c;have O:=c;clear c;go_simp;(try with_reducible rfl))
      refine Be 12 ?_ (hy:=by
       intro u c;have O:=c;clear c;go_simp;(try with_reducible rfl))
      refine D3 13 fun K hK=>?_;obtain⟨c7,df,az⟩:=gG hO (by rw[List.length_set]) i fx 2 (by omega) (.int .i64 d) y2 dd;have dh:=hQ.setCell (p:=⟨g4,i*4+2,none⟩) eb (.int .i64 d)
      go_simp
      clear hSn hO hQ c7 df;have hQ:=dh;have hO:=az;clear dh az;generalize w3.setCell ⟨g4,i*4+2,none⟩ (.int .i64 d)=w4 at hQ hO ⊢;have hSn:=fy.out _ hQ;refine Db hK (fun b6=>?_);clear hK K;refine wpAnyH_done Kr ?_ _;clear b6;go_wp2_with fail;go_meet
      case rel=>exact⟨_,rfl,hO,hQ⟩
     case rest=>
      obtain⟨ts,di,ej,bf⟩:=hcut;obtain⟨c8,rfl⟩:=ex wc;have ek:=Hq di;have en:ts.length=xs.txns.length:=(by rw[di,List.length_set,List.length_set]);have dj:=Hq en;have b0:=Hq (ih.out.under (M:=M) (by simp;omega) bf);have bg:=Hq ((bf.block g ax).trans da.out);have dm:=Hq ej;have dn:=Hq bf;have fh:=show c8.cell? ⟨(w.heap.size+1),3,none⟩=some (.int .i64 A)from(by rw[Aa b0.out.As];rfl);clear di en ej bf;rcases gj.out with rfl|rfl
      ·clear dd de fx
       go_wp2_with(first
        |with_reducible refine lL bg.out Az ?_
        |with_reducible refine lS (Au {xs with log:=E} {P with T:=some ⟨g4,0,none⟩,tc:=c4}) b0.out.Cc ?_)
       refine rT2 (.int .i64 0) b0.out.Cc Az ?_;have fz:(Value.agg (Au {xs with log:=E} {P with T:=some ⟨g4,0,none⟩,tc:=c4}))=Ar {xs with log:=E,txns:=ts} {P with T:=some ⟨g4,0,none⟩,tc:=c4}:=(by dsimp only[Ar,Au];rw[dj.out]);have b7:=dm.out;rw[← dj.out]at b7;have dp:=dc.out.upto cy.out.1 cy.out.2 dn.out (Ex b7) ((Df.own b7).mono (Nat.zero_le _));have dq:=dp.other (t:=36) b0.out.Cc (by decide) (by decide) (by decide) (Au {xs with log:=E} {P with T:=some ⟨g4,0,none⟩,tc:=c4});have ga:=(b0.out.row 2 (Au {xs with log:=E} {P with T:=some ⟨g4,0,none⟩,tc:=c4}) _ rfl).below;rw[fz];have gb:X=⟨{xs with log:=E,txns:=ts},l.set xk ⟨f.Ab,z,f.pins,true,y⟩,0⟩:=by
        rw[fm.out,ek.out,ij.out,hd.out];rfl
       exact dv.out ⟨{xs with log:=E,txns:=ts},l.set xk ⟨f.Ab,z,f.pins,true,y⟩,0⟩ gb _ _ dq ga
      ·have ik:i<ts.length:=by rw[dj.out];exact cp
       obtain⟨y3,gd⟩:=ex ({ts[i]with next:=C}:Rc.Cw);have j9:=Hq (show ts.set i y3=xs.txns.set i {xs.txns[i]with last:=d,next:=C}from by
        have key:∀ L (e:L=(xs.txns.set i y1).set i y2) (h:i<L.length),L.set i {L[i]with next:=C}=(xs.txns.set i {xs.txns[i]with last:=d,next:=d}).set i {xs.txns[i]with last:=d,next:=C}:=fun L e h=>by
         subst e;simp only[ij.out,List.getElem_set_self]
        rw[gd,key ts ek.out ik,List.set_set])
       obtain⟨c7,df,az⟩:=gG dm.out dj.out i ik 2 (by omega) (.int .i64 C) y3 (by rw[gd];rfl);have eo:=c7.trans (show(P8 ts[i])[2]? =some (.int .i64 ts[i].next)from rfl);have H:=show c8.cell? ⟨g,13,none⟩=some (.slice (some ⟨g4,0,none⟩) xs.txns.length c4)from(by rw[Aa bg.out];rfl);have ja:=show c8.cell? ⟨(w.heap.size+1),5,none⟩=some (.int .i64 C)from(by rw[Aa b0.out.As];rfl);generalize ts[i].next=onx at eo;clear c7 gd dd de fx;go_upto_region 27 with fail;have bh:=(show Below M c8 c8 from⟨rfl,rfl,rfl,Nat.le_refl _,fun _ _=>rfl⟩).setCell (p:=⟨g4,i*4+2,none⟩) eb (.int .i64 C);have ep:=Hq (dn.out.trans bh);have dr:=Hq (b0.out.under (M:=M) (by simp;omega) bh);have er:=Hq ((bh.block g ax).trans bg.out);have et:=Hq az;have eu:=Hq (show(ts.set i y3).length=xs.txns.length from by rw[List.length_set];exact dj.out);generalize c8.setCell ⟨g4,i*4+2,none⟩ (.int .i64 C)=w20 at ep dr er et ⊢;clear bh az df eo H ja b0 bg dm dn fh
       go_wp2_with(first
        |with_reducible refine lL er.out Az ?_
        |with_reducible refine lS (Au {xs with log:=E} {P with T:=some ⟨g4,0,none⟩,tc:=c4}) dr.out.Cc ?_)
       refine rT2 (.int .i64 0) dr.out.Cc Az ?_;have fz:(Value.agg (Au {xs with log:=E} {P with T:=some ⟨g4,0,none⟩,tc:=c4}))=Ar {xs with log:=E,txns:=(ts.set i y3)} {P with T:=some ⟨g4,0,none⟩,tc:=c4}:=(by dsimp only[Ar,Au];rw[eu.out]);have b7:=et.out;rw[← eu.out]at b7;have dp:=dc.out.upto cy.out.1 cy.out.2 ep.out (Ex b7) ((Df.own b7).mono (Nat.zero_le _));have dq:=dp.other (t:=36) dr.out.Cc (by decide) (by decide) (by decide) (Au {xs with log:=E} {P with T:=some ⟨g4,0,none⟩,tc:=c4});have ga:=(dr.out.row 2 (Au {xs with log:=E} {P with T:=some ⟨g4,0,none⟩,tc:=c4}) _ rfl).below;rw[fz];have gb:X=⟨{xs with log:=E,txns:=ts.set i y3},l.set xk ⟨f.Ab,z,f.pins,true,y⟩,0⟩:=by
        rw[fm.out,j9.out,hd.out];rfl
       exact dv.out ⟨{xs with log:=E,txns:=(ts.set i y3)},l.set xk ⟨f.Ab,z,f.pins,true,y⟩,0⟩ gb _ _ dq ga
  ·rw[decide_eq_false bj]at a6
   have hh:¬ Im s pg:=fun Z=>bj ⟨Z.1,by have:=Z.2;omega⟩;have I:=Hq (show X=⟨s,fs,1⟩from by rw[hX];unfold Dy;rw[if_pos (fun Z=>hh Z.2)]);clear h hX hW hh bj ev hD ds;generalize Dq X w=Q at a7 ⊢;go_enter Tryz.func34,Tryz.ntmps34;go_upto_region 1 with fail;have G:=Ti w (Au s p) 36 #[.int .i64 0,.int .i64 0,.int .i64 t,.int .i64 A,.int .i64 pg,.int .i64 C,.int .i64 0,.int .i64 o.kind,.int .i64 o.slot,.string o.A5,.string o.new,.int .i64 U,.int .i64 rt,.string k.key,.int .i64 k.Ab,.int .i64 k.slot,.slice none 0 0,.slice none 0 0] 47 #[.int .i64 0,.int .i64 0,.int .i64 0,.slice none 0 0,.int .i64 0,.bool false,.int .i64 0,.int .i64 0,.int .i64 0,.int .i64 0,.string ⟨#[]⟩,.slice none 0 0,.int .i64 0,.slice none 0 0,.int .i64 0] 36;obtain⟨W0,af⟩:=Gz G;rw[← af]at G ⊢;clear af;have dx:=show W0.cell? ⟨(w.heap.size+1),3,none⟩=some (.int .i64 A)from(by rw[Aa G.out.As];rfl);have bl:=show W0.cell? ⟨(w.heap.size+1),4,none⟩=some (.int .i64 pg)from by rw[Aa G.out.As];rfl
   go_cut [27] (fun x wc=>x= .bool true∧Bw W0 wc)
   case first=>
    rcases R with rfl|rfl
    ·go_wp2_with(first|with_reducible refine lL G.out.Am Az ?_|(go_at_call 65;refine(a6.out _).mono ?_;rintro e w1 ⟨rfl,b2⟩))
     go_meet
     case rel=>exact⟨rfl,b2⟩
    ·go_wp2_with(first|with_reducible refine lL G.out.Am Az ?_|(go_at_call 65;refine(a6.out _).mono ?_;rintro e w1 ⟨rfl,b2⟩))
     go_meet
     case rel=>exact⟨rfl,b2⟩
   case rest=>
    obtain⟨rfl,cd⟩:=hcut;obtain⟨w1,rfl⟩:=ex wc;have H1:=Hq (G.out.step cd);clear cd G a6 dx bl
    go_wp2_with(first|with_reducible refine lL H1.out.Am Az ?_|with_reducible refine lS (Au s p) H1.out.Cc ?_)
    refine rT2 (.int .i64 1) H1.out.Cc Az ?_;exact a7.out _ (H1.out.row 2 (Au s p) _ rfl).below 1 I.out
 ·have I:=Hq (show X=⟨s,fs,1⟩from by rw[hX];unfold Dy;rw[if_pos (fun Z=>R Z.1)])
  have jk:(A != 2)=true:=by rw[bne_iff_ne];exact fun e=>R (.inl e)
  have dx:(A != 3)=true:=by rw[bne_iff_ne];exact fun e=>R (.inr e)
  clear h hX hW ev hD ds R a6;generalize Dq X w=Q at a7 ⊢;go_enter Tryz.func34,Tryz.ntmps34;go_upto_region 1 with fail;have G:=Ti w (Au s p) 36 #[.int .i64 0,.int .i64 0,.int .i64 t,.int .i64 A,.int .i64 pg,.int .i64 C,.int .i64 0,.int .i64 o.kind,.int .i64 o.slot,.string o.A5,.string o.new,.int .i64 U,.int .i64 rt,.string k.key,.int .i64 k.Ab,.int .i64 k.slot,.slice none 0 0,.slice none 0 0] 47 #[.int .i64 0,.int .i64 0,.int .i64 0,.slice none 0 0,.int .i64 0,.bool false,.int .i64 0,.int .i64 0,.int .i64 0,.int .i64 0,.string ⟨#[]⟩,.slice none 0 0,.int .i64 0,.slice none 0 0,.int .i64 0] 36;obtain⟨W0,af⟩:=Gz G;rw[← af]at G ⊢;clear af;have bl:=show W0.cell? ⟨(w.heap.size+1),3,none⟩=some (.int .i64 A)from(by rw[Aa G.out.As];rfl);go_upto_region 2 with fail
  go_wp2_with(first|with_reducible refine lL G.out.Am Az ?_|with_reducible refine lS (Au s p) G.out.Cc ?_)
  refine rT2 (.int .i64 1) G.out.Cc Az ?_;exact a7.out _ (G.out.row 2 (Au s p) _ rfl).below 1 I.out
open Go.Sort Go.Shelf
def Vm (w w':World):Prop:=∃ (q:Nat) (os:Array Obj),w'=Go.Sort.grow (w.drewN q) os
theorem Vm.refl (w:World):Vm w w:=⟨0,#[],by rw[Go.Sort.grow_empty];rfl⟩
theorem Vm.trans {u v w:World}(h:Vm u v)(k:Vm v w):Vm u w:=by
 obtain⟨q,os,rfl⟩:=h;obtain⟨b,a,rfl⟩:=k;refine⟨q+b,os++a,?_⟩
 show Go.Sort.grow (Go.Sort.grow ((u.drewN q).drewN b) os) a=_
 rw[Go.Sort.grow_grow,World.drewN_drewN]
theorem Vm.alloc {u v:World}(h:Vm u v)(o:Obj):Vm u (v.alloc o):=h.trans ⟨0,#[o],by rw[Go.Sort.alloc_eq_grow];rfl⟩
section
variable {α : Type} {enc : α → List Value} {k : Nat} {e : TypeId} {B g c : Nat} {w : World} {l : List α} [Inhabited α]
theorem cW (b:∀ x,(enc x).length=k)(l:List α)(t:Nat)(c:t<l.length*k):(l.flatMap enc)[t]? =some (flatK enc k l.toArray)[t]! :=by
 have a:0<k:=by rcases Nat.eq_zero_or_pos k with h|h;(· subst h;omega);(· exact h)
 have d:t/k<l.length:=by rw[Nat.div_lt_iff_lt_mul a];exact c
 have e:t%k<k:=Nat.mod_lt _ a;rw[get_flatK enc k l.toArray t (by simpa using c)];have f:t=t/k*k+t%k:=by rw[Nat.mul_comm];exact(Nat.div_add_mod t k).symm
 conv=>lhs;rw[f,Ju b l (t/k) (t%k) d e]
 have g:l.toArray[t/k]! =l[t/k]:=by simp[d]
 rw[g,List.getElem!_eq_getElem?_getD,List.getElem?_eq_getElem (by rw[b];exact e)]
 rfl
theorem nP (d:∀ x,(enc x).length=k)(f:Ep enc k e B w (.slice (some ⟨g,0,none⟩) l.length c) l):HoldsK enc k w g 0 l.toArray:=by
 obtain⟨cur,i,m,b,n,o,p,h⟩:=Ql f;intro j a;rw[size_flatK,List.size_toArray]at a;refine⟨?_,Aj b _⟩;rw[Aa b,Nat.zero_add,h j a,cW d l j a]
 rfl
theorem gS (d:∀ x,(enc x).length=k)(i:Ep enc k e B w (.slice (some ⟨g,0,none⟩) l.length c) l)(a:List α)(b:a.length=l.length)(n:Nat)(os:Array Obj):
 Ep enc k e B (sortWorldK enc k w g 0 n a.toArray os) (.slice (some ⟨g,0,none⟩) l.length c) a∧Below B w (sortWorldK enc k w g 0 n a.toArray os):=by
 obtain⟨cur,m,o,p,f,q,r,u⟩:=Ql i;have s:l.length*k≤c*k:=Nat.mul_le_mul_right _ f;have hblk:(sortWorldK enc k w g 0 n a.toArray os).heap[g]? =some (.cells (putCells id 0 (flatK enc k a.toArray) cur) e (0,0)):=by
  show(w.heap.modify g _++os)[g]? =_
  rw[Array.getElem?_append_left (by rw[Array.size_modify];exact o),Array.getElem?_modify,if_pos rfl,p]
  rfl
 refine⟨?_,⟨rfl,rfl,rfl,?_,fun j v=>?_⟩⟩
 ·rw[← b]
  refine gH d m hblk (by rw[b];exact f) q (by unfold putCells;rw[Array.size_mapIdx];exact r) (fun t h=>?_);rw[b]at h;unfold putCells;rw[Array.getElem?_mapIdx,Array.getElem?_eq_getElem (by omega),Option.map_some,size_flatK,List.size_toArray,if_pos ⟨Nat.zero_le _,by rw[b];omega⟩,cW d a t (by rw[b];exact h)]
  rfl
 ·show w.heap.size≤(w.heap.modify g _++os).size
  rw[Array.size_append,Array.size_modify];omega
 ·show(w.heap.modify g _++os)[j]? =_
  rw[Array.getElem?_append_left (by rw[Array.size_modify];omega),Array.getElem?_modify,if_neg (by omega)]
end
theorem vW {α:Type}{o:α→α→Int}(t:Sp.uI o):SWO (ltOf o):=by
 refine⟨fun x=>by simp[ltOf,t.self],fun x y z d e=>?_,fun x y z d e=>?_⟩
 ·simp only[ltOf,decide_eq_true_eq]at*
  exact t.trans d e
 ·simp only[ltOf,decide_eq_false_iff_not]at*
  have f:=t.neg x y;have g:=t.neg y z;have h:=t.neg x z;have:=t.le_trans (a:=z) (b:=y) (c:=x) (by omega) (by omega);omega
theorem zE {α:Type}{o:α→α→Int}(t:Sp.uI o)(x y:α)(a:(ltOf o) x y=false)(b:(ltOf o) y x=false):x=y:=by
 simp only[ltOf,decide_eq_false_iff_not]at*;exact t.Abu (by have:=t.neg x y;omega) (by have:=t.neg x y;omega)
theorem Aba:Sp.uI Lib.compareInt:=⟨Sp.yM,fun h=>Sp.uH.1 h,fun h k=>by rw[Sp.Aaj]at*;omega⟩
def uA (f:Fr):Bool:=decide (f.bytes.size≠0)&&decide (f.rc≠0)
def Jk (fs:List Fr):List Int:=(fs.filter uA).map (·.Ab)
def sL (fs:List Fr)(p:Int):Int:=((fs.find? (fun f=>uA f&&decide (f.Ab=p))).map (·.rc)).getD 0
def nQ (rf:Int→Int)(p:Int):List Value:=[.int .i64 p,.int .i64 (rf p)]
theorem Zf (a:Int→Int)(p:Int):(nQ a p).length=2:=rfl
theorem kH (b:Int→Int)(p:Int):∀ u∈nQ b p,u.oneCell'=true:=by
 intro u a;simp only[nQ,List.mem_cons,List.not_mem_nil,or_false]at a;rcases a with rfl|rfl<;>rfl
def Td (fs:List Fr):List Rc.Cx:=(Sp.Pt Lib.compareInt (Jk fs)).map (fun p=>⟨p,sL fs p⟩)
theorem cX (fs:List Fr):(Td fs).length=(Sp.Pt Lib.compareInt (Jk fs)).length:=by unfold Td;rw[List.length_map]
theorem nR (fs:List Fr):(Td fs).flatMap jQ=(Sp.Pt Lib.compareInt (Jk fs)).flatMap (nQ (sL fs)):=by unfold Td;rw[List.flatMap_map];rfl
theorem Tr {f:Fr}:uA f=true↔f.bytes≠⟨#[]⟩∧f.rc≠0:=by
 unfold uA;rw[Bool.and_eq_true,decide_eq_true_iff,decide_eq_true_iff]
 constructor
 ·rintro⟨a,b⟩
  exact⟨fun h=>a (by rw[h];rfl),b⟩
 ·rintro⟨a,b⟩
  exact⟨fun h=>a (ByteArray.ext (Array.eq_empty_of_size_eq_zero h)),b⟩
theorem Abb {fs:List Fr}(c:∀ i j (hi:i<fs.length) (hj:j<fs.length),i≠j→Full fs[i]→Full fs[j]→fs[i].Ab≠fs[j].Ab)(i:Nat)(hi:i<fs.length)(e:uA fs[i]=true):sL fs fs[i].Ab=fs[i].rc:=by
 unfold sL
 cases d:fs.find? (fun f=>uA f&&decide (f.Ab=fs[i].Ab))with
 |none=>
  have a:=List.find?_eq_none.1 d fs[i] (List.getElem_mem hi);rw[e]at a
  simp at a
 |some x=>
  have a:=List.find?_some d;have g:=List.mem_of_find?_eq_some d;rw[Bool.and_eq_true,decide_eq_true_iff]at a;obtain⟨j,hj,rfl⟩:=List.getElem_of_mem g
  by_cases b:i=j
  ·subst b;rfl
  ·exact absurd a.2.symm (c i j hi hj b (Tr.1 e).1 (Tr.1 a.1).1)
theorem gT (fs:List Fr)(k:Nat)(a:k<fs.length):(uA fs[k]=true→Jk (fs.take (k+1))=Jk (fs.take k)++[fs[k].Ab])∧(uA fs[k]=false→Jk (fs.take (k+1))=Jk (fs.take k)):=by
 unfold Jk;rw[List.take_succ_eq_append_getElem a,List.filter_append,List.map_append];exact⟨fun h=>by rw[List.filter_cons_of_pos h];rfl,fun h=>by rw[List.filter_cons_of_neg (by rw[h];simp)];simp⟩
theorem Xm (fs:List Fr)(k:Nat):(Jk (fs.take k)).length≤k:=by
 unfold Jk;rw[List.length_map];exact Nat.le_trans (List.length_filter_le _ _) (by rw[List.length_take];omega)
def yG (fs:List Fr)(w:World)(e:Ending)(w':World):Prop:=∃ A c,e= .returned (.slice A (Td fs).length c)∧tZ w' A c (Td fs)∧Df 0 w' 65 A∧Bw w w'
theorem gU (f:Fr)(w:World):Cq 54 #[.agg (Gc f)] w fun e w'=>∃ q:Bool,e= .returned (.bool q)∧(q=true↔f.bytes=⟨#[]⟩)∧Bw w w':=by
 by_cases c:f.bytes=⟨#[]⟩
 ·have g:=Zb
  go_enter Tryz.func54,Tryz.ntmps54;go_upto_region 1 with fail;have b:=yB w (Gc f) 95;obtain⟨d,a⟩:=Gz b;rw[← a]at b ⊢;clear a;have i:=show d.cell? ⟨w.heap.size,1,none⟩=some (.string ⟨#[]⟩)from(by rw[Aa b.out.Am,← c];rfl);have j:=Hq c;clear c;go_wp2_with fail;go_ret;exact⟨true,by simp,⟨fun _=>j.out,fun _=>rfl⟩,b.out.below⟩
 ·obtain⟨k,l,m⟩:=rZ c
  go_enter Tryz.func54,Tryz.ntmps54;go_upto_region 1 with fail;have b:=yB w (Gc f) 95;obtain⟨d,a⟩:=Gz b;rw[← a]at b ⊢;clear a;have i:=show d.cell? ⟨w.heap.size,1,none⟩=some (.string f.bytes)from(by rw[Aa b.out.Am];rfl);go_wp2_with fail;go_ret;exact⟨false,by simp,⟨(fun h=>by cases h),fun h=>absurd h c⟩,b.out.below⟩
theorem sM (c:Int→Int)(a b:Int)(w:World):Cq 56 #[.agg (nQ c a).toArray,.agg (nQ c b).toArray] w fun e w'=>e= .returned (.int .i64 (Lib.compareInt a b))∧Vm w w':=by
 show Cq 56 #[.agg #[a,.int .i64 (c a)],.agg #[b,.int .i64 (c b)]] w _
 have g:=Hq (((Vm.refl w).alloc (.cells #[a,.int .i64 (c a)] 65)).alloc (.cells #[b,.int .i64 (c b)] 65));go_enter Tryz.func56,Tryz.ntmps56;go_upto_region 1 with fail;have f:=O2 w #[a,.int .i64 (c a)] 65 #[b,.int .i64 (c b)] 65;obtain⟨h,d⟩:=Gz f;rw[← d]at f g ⊢;clear d;have i:=show h.cell? ⟨w.heap.size,0,none⟩=some (.int .i64 a)from by rw[Aa f.out.Am];rfl
 have j:=show h.cell? ⟨w.heap.size+1,0,none⟩=some (.int .i64 b)from by rw[Aa f.out.As];rfl
 go_wp2_with(go_at_call 57;(with_reducible refine(Tryz.cmpI _ _ _).mono ?_);rintro e k ⟨rfl,rfl⟩)
 go_ret;exact⟨by simp,g.out⟩
theorem nS (a:Int→Int)(l:List Int)(q:l.length≤1000000)(B:Nat)(v:Value)(w:World)(b:Ep (nQ a) 2 65 B w v l)(r:B≤w.heap.size):
 Cq 55 #[v,.func (.func 56) #[] #[]] w fun e w'=>e= .returned (.tuple #[])∧Ep (nQ a) 2 65 B w' v (Sp.Pt Lib.compareInt l)∧Below B w w':=by
 have j:=b.2;rcases j with⟨rfl,o⟩|⟨g,cap,cur,rfl,_⟩
 ·have c:l=[]:=List.eq_nil_of_length_eq_zero o
  subst c;refine(AnyF.slices_SortFunc_none Tryz.sortD none 0 (.func (.func 56) #[] #[]) w).mono ?_;rintro e w' ⟨rfl,rfl⟩;exact⟨rfl,by simpa[Sp.Pt]using b,Below.refl _ _⟩
 ·have hO:=nP (k:=2) (Zf a) b
  obtain⟨i,_,p,s,_⟩:=Ql b;have h:=AnyQ.slices_SortFunc_total Tryz.sortD 2 Tryz.isAgg65 Tryz.sizeOf65 (nQ a) (Zf a) (kH a) Lib.compareInt (vW Aba) 56 #[] g 0 cap l.toArray w (enters_of Tryz.func56 Kr rfl) (fun m os t d x y=>(sM a x y _).mono (fun e w' h=>⟨h.1,h.2⟩)) hO p (by simp;omega) (zE Aba);simp only[List.size_toArray]at h;refine Calls.mono h ?_;rintro e w' ⟨rfl,n,os,rfl⟩;have d:=gS (Zf a) b (Sp.Pt Lib.compareInt l) (Sp.Pu _ _) n os;refine⟨rfl,?_,d.2⟩
  show World.ownsRow _ B 65 2 _ (Sp.Pt Lib.compareInt l).length _
  rw[Sp.Pu];have f:=d.1;unfold Ep at f;rw[Sp.Pu]at f;exact f
theorem cY (s:Tx.St)(p:SP)(fs:List Fr)(X:∀ i j (hi:i<fs.length) (hj:j<fs.length),i≠j→Full fs[i]→Full fs[j]→fs[i].Ab≠fs[j].Ab)(E:fs.length≤64)(w:World)(h:Ba w s p fs):
 Cq 21 #[Ar s p] w (yG fs w):=by
 have aj:=Hq h.fn;have HR:=Hq h.fr;have I:=Hq E;have Y:=Hq (nR fs);have Z:=Hq (cX fs);obtain⟨u,J⟩:=ex (sL fs);have ak:=Hq (show ∀ i (hi:i<fs.length),uA fs[i]=true→u fs[i].Ab=fs[i].rc from fun i hi t=>by rw[J];exact Abb X i hi t);rw[← J]at Y;clear h X E J;go_enter Tryz.func21,Tryz.ntmps21;go_upto_region 1 with fail;have W:=yB w (Au s p) 36;obtain⟨G,a1⟩:=Gz W;rw[← a1]at W ⊢;clear a1;have hc:=show G.cell? ⟨w.heap.size,11,none⟩=some (.slice p.F fs.length p.fc)from by rw[Aa W.out.Am,← aj.out];rfl
 have a6:=Hq (show w.heap.size<G.heap.size from W.out.lt (i:=0) (by simp));go_wp2_with fail;clear hc
 go_loopw [3,10] (fun v i wr=>∃ k:Nat,k≤fs.length∧i= .int .i64 k∧Ep (nQ u) 2 65 G.heap.size wr v (Jk (fs.take k))∧Fc w.heap.size w [((Au s p),36)] wr∧G.heap.size≤wr.heap.size) (fun _ i _=>fs.length-(intOf i).toNat)
 case atStart=>exact⟨0,Nat.zero_le _,rfl,Ml _ _ _ _,W.out,Nat.le_refl _⟩
 case round=>
  clear W;obtain⟨k,hk,rfl,ho,a7,a8⟩:=hrel;have HO:=Hq ho;have y:=Hq a7;have L:=Hq a8;clear ho a7 a8;have az:(0:Int)≤(k:Int):=by omega
  by_cases N:k<fs.length
  ·obtain⟨b,off,aa,an,ao,c⟩:=Cv E3 (HR.out.below y.out.below) N
   have b0:(k:Int)<(fs.length:Int):=(by omega);have b1:IntKind.i64.wrap ((k:Int)+1)=(k:Int)+1:=IntWalk.i64_in _ (by have:=I.out;omega);have d:=Hq (gT fs k N);have z:=Hq (ak.out k N);have aq:(Jk (fs.take k)).length≤64:=(by have:=I.out;have:=Xm fs k;omega);obtain⟨S2,O⟩:=ex (Jk (fs.take (k+1)));rw[← O]at d;have P:=Hq O;clear O;generalize Jk (fs.take k)=S at d aq HO ⊢;generalize fs[k]=f at d z c;have ad:=Hq (show wr.rangeAt b (off+k*5) (Me f)from c);rw[aa];clear c an ao aa;obtain⟨OA,oc,rfl⟩:=Gd HO.out
   go_upto_region 5 with(first
    |(refine Dr Kr fun K hK=>wp_load_mid 95 (.tmp 12) rfl b (off+k*5) rfl (Me f) _ ad.out J5 Kr Kr (hK _ _ ?_))
    |with_reducible refine sN (Gc f) ?_)
   have A:=Ag wr (.cells (Gc f) 95);have H5:=Hq (y.out.step A);have g:=Hq (heap_alloc_new wr (.cells (Gc f) 95));have B:=Hq (Ce HO.out A);have C:=Hq (Nat.le_trans L.out A.size);obtain⟨gf,Q⟩:=ex wr.heap.size;obtain⟨w5,D⟩:=ex (wr.alloc (.cells (Gc f) 95));rw[← Q,← D]at g;rw[← D]at H5 B C;rw[← D,← Q];clear D Q A y HO ad L
   try simp only[Act.put]
   have R:=Hq (gU f w5)
   by_cases t:uA f=true
   ·obtain⟨ae,af⟩:=Tr.1 t
    have b2:(f.rc != 0)=true:=bne_iff_ne.2 af;have HE:=Hq (d.out.1 t);have ag:=Hq (z.out t);have ar:=Hq ae;clear d z t ae af;obtain⟨pg,T⟩:=ex f.Ab;have au:=Hq T;rw[← T]at HE ag;clear T
    go_upto_region 6 with(first
     |with_reducible refine lL g.out J5 ?_
     |(go_at_call 54;(refine R.out.mono ?_);rintro e m ⟨q,rfl,H,a⟩;obtain rfl:q=false:=(by cases q with|true=>exact absurd (H.1 rfl) ar.out|false=>rfl);clear H;have n:=Hq (Ae g.out a);have H6:=Hq (H5.out.step a);have o:=Hq (Ce B.out a);have l:=Hq (Nat.le_trans C.out a.size);have ah:=show m.cell? ⟨gf,4,none⟩=some (.int .i64 f.rc)from(by rw[Aa n.out];rfl)))
    clear ah;have b3:=show m.cell? ⟨gf,0,none⟩=some (.int .i64 pg)from(by rw[Aa n.out,au.out];rfl);have b4:=show m.cell? ⟨gf,4,none⟩=some (.int .i64 (u pg))from by rw[Aa n.out,ag.out];rfl
    go_wp2_with(at_builtin;refine Lf Kr (.tmp 22) (.tmp 28) 45 65 yN U0 rfl (by omega) (by omega) rfl G.heap.size _ S.length (S.flatMap (nQ u)) rfl (Ce o.out (Ag _ _)) m.heap.size (nQ u pg) 65 rfl (heap_alloc_new m _) rfl (kH u pg) (by omega) (Nat.le_trans l.out (Ag m _).size) ?_;intro v7 w7 av b5 ai)
    go_roundw
    case rel=>exact⟨k+1,by omega,by go_num,by rw[← P.out,HE.out];exact Ep.push (enc:=nQ u) (x:=pg) av,(H6.out.step (Ag m _)).under (M:=G.heap.size) (by have:=a6.out;simp;omega) ai,Nat.le_trans (Nat.le_trans l.out (Ag m (.cells #[pg,.int .i64 (u pg)] 65)).size) ai.size⟩
    case measure=>simp[intOf];omega
   ·have HE:=Hq (d.out.2 (Bool.eq_false_iff.2 t))
    clear d z
    by_cases r:f.bytes=⟨#[]⟩
    ·have U:=Hq r
     clear t r
     go_wp2_with(first
      |with_reducible refine lL g.out J5 ?_
      |(go_at_call 54;(refine R.out.mono ?_);rintro e m ⟨q,rfl,H,a⟩;obtain rfl:q=true:=H.2 U.out;clear H;have H6:=Hq (H5.out.step a);have o:=Hq (Ce B.out a);have l:=Hq (Nat.le_trans C.out a.size)))
     go_roundw
     case rel=>exact⟨k+1,by omega,by go_num,by rw[← P.out,HE.out];exact o.out,H6.out,l.out⟩
     case measure=>simp[intOf];omega
    ·have aw:=Hq (show f.rc=0 from by
      by_cases hr:f.rc=0
      ·exact hr
      ·exact absurd (Tr.2 ⟨r,hr⟩) t)
     have U:=Hq r;clear t r
     go_wp2_with(first
      |with_reducible refine lL g.out J5 ?_
      |(go_at_call 54;(refine R.out.mono ?_);rintro e m ⟨q,rfl,H,a⟩;obtain rfl:q=false:=(by cases q with|true=>exact absurd (H.1 rfl) U.out|false=>rfl);clear H;have H6:=Hq (H5.out.step a);have o:=Hq (Ce B.out a);have l:=Hq (Nat.le_trans C.out a.size);have n:=Hq (Ae g.out a);have ah:=show m.cell? ⟨gf,4,none⟩=some (.int .i64 0)from(by rw[Aa n.out,← aw.out];rfl)))
     go_roundw
     case rel=>exact⟨k+1,by omega,by go_num,by rw[← P.out,HE.out];exact o.out,H6.out,l.out⟩
     case measure=>simp[intOf];omega
  ·obtain rfl:k=fs.length:=by omega
   have ho:=HO.out;rw[List.take_length]at ho;have ax:(Jk fs).length≤1000000:=by have:=Xm fs fs.length;rw[List.take_length]at this;have:=I.out;omega
   go_wp2_with(go_at_call 55;refine(nS u (Jk fs) ax G.heap.size _ _ ho L.out).mono ?_;rintro e w8 ⟨rfl,V,ay⟩)
   go_ret;obtain⟨A8,c8,rfl⟩:=Gd V;refine⟨A8,c8,by rw[Z.out];rfl,?_,(Df.own V).mono (Nat.zero_le _),(y.out.under (M:=G.heap.size) (by have:=a6.out;simp;omega) ay).below⟩
   show Reads _ _ _ (Td fs).length ((Td fs).flatMap jQ)
   rw[Z.out,Y.out];exact Ex V
noncomputable def Jl (s0:Tx.St) (fs0:List Fr):List Int→Tx.St→List Fr→Px
 |[],s,fs=>⟨s,fs,0⟩
 |p::l,s,fs=>if(D4 s fs p).e=0 then Jl s0 fs0 l (D4 s fs p).s (D4 s fs p).fs else Dz s0 fs0 (D4 s fs p)
noncomputable def Te (s:Tx.St) (fs:List Fr):Px:=Jl s fs ((Td fs).map (·.Ab)) s fs
theorem Wf.Jl {N n B:Nat}{s0:Tx.St}{fs0:List Fr}(h0:Wf N n B s0 fs0):∀ (l:List Int) (s:Tx.St) (fs:List Fr),Wf N n B s fs→fs.length=fs0.length→Wf N n B (Jl s0 fs0 l s fs).s (Jl s0 fs0 l s fs).fs∧(Jl s0 fs0 l s fs).fs.length=fs0.length
 |[],_,_,h,hl=>⟨h,hl⟩
 |p::l,s,fs,h,hl=>by
  obtain⟨h1,h2⟩:=h.Kv p
  show Wf N n B (if _ then _ else _:Px).s (if _ then _ else _:Px).fs∧(if _ then _ else _:Px).fs.length=_
  split
  ·exact Wf.Jl h0 l _ _ h1 (h2.trans hl)
  ·exact h0.back h1 (h2.trans hl)
theorem Wf.all {N n B:Nat}{s:Tx.St}{fs:List Fr}(h:Wf N n B s fs):Wf N n B (Te s fs).s (Te s fs).fs∧(Te s fs).fs.length=fs.length:=h.Jl _ _ _ h rfl
theorem Sv {N n B:Nat}(s:Tx.St)(p:SP)(fs:List Fr)(K:Wf N n B s fs)(pg:Int)(w:World)(h:Ba w s p fs):
 Cq 36 #[Ar s p,pg] w (Dq (D4 s fs pg) w):=by
 have P:=K.nf;have R:=K.zp;have f:=Hq (fun W=>Ny s p n K.zp pg W);have D:=Hq (fun W (r:Bw w W)=>Qp s p fs (by omega) pg W (h.below r));have v:=Hq (fun k (hk:k<fs.length) W (r:Bw w W)=>Ss s p fs K k hk W (h.below r));have HP:=Hq h;obtain⟨X,L⟩:=ex (D4 s fs pg);rw[← L];have i:=Hq (fun W (r:Bw w W) (e:Int)=>show X=⟨s,fs,e⟩→Dq X w (.returned (.tuple #[Ar s p,e])) W from fun he=>by rw[he];exact⟨p,rfl,h.below r,r⟩);have S:=Hq (fun(Y:Px) (he:X=Y) w' (q:SP) (hp:Ba w' Y.s q Y.fs) (r:Bw w w')=>show Dq X w (.returned (.tuple #[Ar Y.s q,Y.e])) w' from by rw[he];exact⟨q,rfl,hp,r⟩)
 by_cases b:0≤pg∧pg<(n:Int)
 ·rw[decide_eq_true b]at f
  have M:Im s pg:=⟨b.1,by omega⟩;have E:=Hq (fun(ha:Oz fs pg=none)=>show X=⟨s,fs,0⟩from by rw[L];unfold D4;rw[if_neg (fun O=>O M),ha]);have F:=Hq (fun k (ha:Oz fs pg=some k)=>show X=Dz s fs (Cu s fs k)from by rw[L];unfold D4;rw[if_neg (fun O=>O M),ha]);clear L K M h P R b;generalize Dq X w=Q at i S ⊢;go_enter Tryz.func36,Tryz.ntmps36;go_upto_region 1 with fail;have u:=O2 w (Au s p) 36 #[(),(),(),'s',(),false,(),(),(),(),"",'s',(),'s',()] 36;obtain⟨W0,l⟩:=Gz u;rw[← l]at u ⊢;clear l
  go_upto_region 3 with(first|with_reducible refine lL u.out.Am Az ?_|(go_at_call 65;refine(f.out _).mono ?_;rintro e w1 ⟨rfl,x⟩;have H1:=Hq (u.out.step x)))
  go_upto_region 4 with(first|with_reducible refine lL H1.out.Am Az ?_|(go_at_call 19;refine(D.out _ H1.out.below).mono ?_;rintro e w2 ⟨kk,rfl,hq,T⟩;have A:=Hq (H1.out.step T)))
  clear x T u H1 f D;rcases hq with⟨rfl,hq⟩|⟨k,hk,rfl,U,V⟩
  ·have ad:(-1:Int)<0:=by decide
   have a:=Hq (E.out (Nz hq));clear hq v F E
   go_wp2_with(first|with_reducible refine lL A.out.Am Az ?_|with_reducible refine lS (Au s p) A.out.As ?_)
   refine rT2 () A.out.As Az ?_;exact i.out _ (A.out.row 1 (Au s p) _ rfl).below 0 a.out
  ·have ae:¬ (k:Int)<0:=by omega
   have af:(k:Int)<(fs.length:Int):=(by omega);have m:=Hq (F.out k (Qq hk U fun j hj a8=>V j a8));have G:=Hq (fun W r=>v.out k hk W r);clear U V F E v;generalize Cu s fs k=Y at m G;obtain⟨c,aa,o⟩:=Y
   go_upto_region 7 with(first
    |with_reducible refine lL A.out.Am Az ?_
    |(go_at_call 80;refine(G.out _ A.out.below).mono ?_;rintro e Z ⟨q,rfl,a1,H⟩)
    |with_reducible refine sN (Au c q) ?_)
   have a6:=H.trans ((Ag Z (.cells (Au c q) 36)).mono H.size);have H5:=Hq (A.out.step a6);have I:=Hq (heap_alloc_new Z (.cells (Au c q) 36));have a7:=Hq (a1.below (Ag Z (.cells (Au c q) 36)));obtain⟨g,hg⟩:=ex Z.heap.size;obtain⟨w5,y⟩:=ex (Z.alloc (.cells (Au c q) 36));rw[← hg,← y]at I;rw[← y]at H5 a7;rw[← y,← hg];clear y hg H a6 A G a1
   try simp only[Act.put]
   by_cases d:o=0∨o=20
   ·have J:=Hq (fun W=>show Cr 81 #[Ar s p,Ar c q,o] W (Ar c q) from by
     have h0:=Gn s p c q o W;rw[if_pos d]at h0;exact h0)
    have a:=Hq (show X=⟨c,aa,o⟩from by rw[m.out];unfold Dz;rw[if_pos d]);clear d m
    go_wp2_with(first
     |with_reducible refine lL H5.out.Am Az ?_
     |with_reducible refine lL I.out Az ?_
     |(go_at_call 81;refine(J.out _).mono ?_;rintro e w6 ⟨rfl,z⟩;have C:=Hq (H5.out.step z))
     |with_reducible refine lS (Au c q) C.out.As ?_)
    refine rT2 o C.out.As Az ?_;exact S.out _ a.out _ q ((a7.out.below z).other (t:=36) C.out.As (by decide) (by decide) (by decide) _) (C.out.row 1 (Au c q) _ rfl).below
   ·have J:=Hq (fun W=>show Cr 81 #[Ar s p,Ar c q,o] W (Ar s p) from by
     have h0:=Gn s p c q o W;rw[if_neg d]at h0;exact h0)
    have a:=Hq (show X=⟨s,fs,o⟩from by rw[m.out];unfold Dz;rw[if_neg d]);clear d m
    go_wp2_with(first
     |with_reducible refine lL H5.out.Am Az ?_
     |with_reducible refine lL I.out Az ?_
     |(go_at_call 81;refine(J.out _).mono ?_;rintro e w6 ⟨rfl,z⟩;have C:=Hq (H5.out.step z))
     |with_reducible refine lS (Au s p) C.out.As ?_)
    refine rT2 o C.out.As Az ?_;exact i.out _ (C.out.row 1 (Au s p) _ rfl).below o a.out
 ·rw[decide_eq_false b]at f
  have M:¬ Im s pg:=fun O=>b ⟨O.1,by have:=O.2;omega⟩;have a:=Hq (show X=⟨s,fs,1⟩from by rw[L];unfold D4;rw[if_pos M]);clear h L K M b P R D v HP;generalize Dq X w=Q at i ⊢;go_enter Tryz.func36,Tryz.ntmps36;go_upto_region 1 with fail;have u:=O2 w (Au s p) 36 #[(),(),(),'s',(),false,(),(),(),(),"",'s',(),'s',()] 36;obtain⟨W0,l⟩:=Gz u;rw[← l]at u ⊢;clear l
  go_upto_region 2 with(first|with_reducible refine lL u.out.Am Az ?_|(go_at_call 65;refine(f.out _).mono ?_;rintro e w1 ⟨rfl,x⟩;have H1:=Hq (u.out.step x)))
  go_wp2_with(first|with_reducible refine lL H1.out.Am Az ?_|with_reducible refine lS (Au s p) H1.out.As ?_)
  refine rT2 (.int .i64 1) H1.out.As Az ?_;exact i.out _ (H1.out.row 1 (Au s p) _ rfl).below 1 a.out
theorem nT {N n B:Nat}(s:Tx.St)(p:SP)(fs:List Fr)(hW:Wf N n B s fs)(w:World)(h:Ba w s p fs):
 Cq 37 #[Ar s p] w (Dq (Te s fs) w):=by
 have bc:=hW.nf;have aq:=Hq (fun W (hb:Bw w W)=>cY s p fs hW.ds (by omega) W (h.below hb));have HP:=Hq h;obtain⟨X,hX⟩:=ex (Te s fs);rw[← hX];have ar:=Hq (fun W (hb:Bw w W) (e:Int)=>show X=⟨s,fs,e⟩→Dq X w (.returned (.tuple #[Ar s p,e])) W from fun he=>by rw[he];exact⟨p,rfl,h.below hb,hb⟩);have a8:=Hq (fun(Y:Px) (he:X=Y) w' (q:SP) (hp:Ba w' Y.s q Y.fs) (hb:Bw w w')=>show Dq X w (.returned (.tuple #[Ar Y.s q,Y.e])) w' from by rw[he];exact⟨q,rfl,hp,hb⟩);have aa:Jl s fs ((Td fs).map (·.Ab)) s fs=X:=hX.symm;have bd:(Td fs).length≤64:=by
  rw[cX,Sp.Pu];unfold Jk;rw[List.length_map];exact Nat.le_trans (List.length_filter_le _ _) bc.2
 have C:=Hq hW;clear hX hW h;generalize Dq X w=Q at ar a8 ⊢;go_enter Tryz.func37,Tryz.ntmps37;go_upto_region 1 with fail;have H0:=O2 w (Au s p) 36 #[(),(),(),'s',(),false,(),(),(),(),"",'s',(),'s',()] 36;obtain⟨W0,au⟩:=Gz H0;rw[← au]at H0 ⊢;clear au
 go_upto_region 2 with(first|with_reducible refine lL H0.out.Am Az ?_|with_reducible refine sN (Au s p) ?_)
 have av:=Ag W0 (.cells (Au s p) 36);have H1:=Hq (H0.out.step av);have ad:=Hq (heap_alloc_new W0 (.cells (Au s p) 36));have bf:w.heap.size+1<W0.heap.size:=H0.out.lt (i:=1) (by simp);obtain⟨g,hg⟩:=ex W0.heap.size;obtain⟨w1,j⟩:=ex (W0.alloc (.cells (Au s p) 36));rw[← hg,← j]at ad;rw[← j]at H1;rw[← j,← hg];rw[← hg]at bf;clear j hg av H0
 try simp only[Act.put]
 have J:=Hq (aq.out w1 H1.out.below);clear aq;unfold yG at J;generalize Td fs=dl at J aa bd;have aw:=Hq aa;clear aa
 go_upto_region 3 with(first|with_reducible refine lL H1.out.Am Az ?_|(go_at_call 21;(refine J.out.mono ?_);rintro e w2 ⟨DD,dc,rfl,ax,ay,ae⟩))
 have H2:=Hq (H1.out.step ae);have az:=Hq (Ae ad.out ae);have b0:=Hq (HP.out.below H2.out.below);have D:=Hq ax;have E:=Hq ay;clear ae ax ay H1 ad J
 go_loopw [13] (fun i wr=>∃ (k:Nat) (s1:Tx.St) (q1:SP) (a:List Fr),k≤dl.length∧i= .int .i64 (k:Int)∧Fc w.heap.size w [((Au s p),36),(#[(),(),(),'s',(),false,(),(),(),(),"",'s',(),'s',()],36)] wr∧wr.heap[g]? =some (.cells (Au s1 q1) 36 (0,0))∧Ba wr s1 q1 a∧Wf N n B s1 a∧Jl s fs ((dl.drop k).map (·.Ab)) s1 a=X∧tZ wr DD dc dl∧Df 0 wr 65 DD) (fun i _=>dl.length-(intOf i).toNat)
 case atStart=>exact⟨0,s,p,fs,Nat.zero_le _,rfl,H2.out,az.out,b0.out,C.out,aw.out,D.out,E.out⟩
 case round=>
  clear H2 az b0 C aw D E;obtain⟨k,s1,q1,a,hk,rfl,b1,b2,b3,j,r,L,b4⟩:=hrel;have u:=Hq b1;have HG:=Hq b2;have b5:=Hq b3;have C:=Hq j;have D:=Hq L;have E:=Hq b4;clear b1 b2 b3 j b4;have bm:(0:Int)≤(k:Int):=by omega
  by_cases F:k<dl.length
  ·have bn:(k:Int)<(dl.length:Int):=by omega
   have bo:IntKind.i64.wrap ((k:Int)+1)=(k:Int)+1:=IntWalk.i64_in _ (by omega);rw[List.drop_eq_getElem_cons F,List.map_cons]at r;obtain⟨b,off,b6,bg,bh,l⟩:=Cv Ms L F;obtain⟨d,b7⟩:=ex (dl[k]);rw[← b7]at l r;have b8:=Hq b6;rw[b6];have b9:=Hq (show wr.rangeAt b (off+k*2) (jQ d)from l);have v:=Hq (show(if(D4 s1 a d.Ab).e=0 then Jl s fs ((dl.drop (k+1)).map (·.Ab)) (D4 s1 a d.Ab).s (D4 s1 a d.Ab).fs else Dz s fs (D4 s1 a d.Ab))=X from r);have af:=Hq (C.out.Kv d.Ab);have ag:=Hq (fun W (hb:Bw wr W)=>Sv s1 q1 a C.out d.Ab W (b5.out.below hb));clear l bg bh L r b7;generalize D4 s1 a d.Ab=Y at v af ag;obtain⟨c,ba,o⟩:=Y;simp only at v af
   go_upto_region 5 with(first
    |(refine Dr Kr fun K hK=>wp_load_mid 65 (.tmp 15) rfl b (off+k*2) rfl (jQ d) _ b9.out Aal Kr Kr (hK _ _ ?_))
    |with_reducible refine sN #[d.Ab,d.from_] ?_)
   have O:=Ag wr (.cells #[d.Ab,d.from_] 65);have H5:=Hq (u.out.step O);have G:=Hq (Ae HG.out O);have ah:=Hq (heap_alloc_new wr (.cells #[d.Ab,d.from_] 65));have P:=Hq O;obtain⟨g2,ai⟩:=ex wr.heap.size;obtain⟨w5,R⟩:=ex (wr.alloc (.cells #[d.Ab,d.from_] 65));rw[← ai,← R]at ah;rw[← R]at H5 G P;rw[← R,← ai];clear R ai O u HG b9
   try simp only[Act.put]
   have bj:=show w5.cell? ⟨g2,0,none⟩=some (.int .i64 d.Ab)from by rw[Aa ah.out];rfl
   go_upto_region 6 with(first
    |with_reducible refine lL G.out Az ?_
    |(go_at_call 36;refine(ag.out _ P.out).mono ?_;rintro e w6 ⟨f,rfl,bb,S⟩)
    |with_reducible refine sN (Au c f) ?_)
   have T:=S.trans ((Ag w6 (.cells (Au c f) 36)).mono S.size);have H7:=Hq (H5.out.step T);have x:=Hq (Ae G.out T);have aj:=Hq (heap_alloc_new w6 (.cells (Au c f) 36));have ak:=Hq (bb.below (Ag w6 (.cells (Au c f) 36)));have H:=Hq (Af P.out T);have bk:g<w6.heap.size:=Nat.lt_of_lt_of_le (C8 G.out) S.size;obtain⟨g3,U⟩:=ex w6.heap.size;obtain⟨w7,V⟩:=ex (w6.alloc (.cells (Au c f) 36));rw[← U,← V]at aj;rw[← V]at H7 x ak H;rw[← V,← U];rw[← U]at bk;clear V U S T H5 G ah P bb ag bj
   try simp only[Act.put]
   go_upto_region 7 with(first|with_reducible refine lL aj.out Az ?_|with_reducible refine lS (Au c f) x.out ?_)
   have a6:=Hq (show tZ (w7.setRow g (Au c f)) DD dc dl from(E.out.below H.out).Gf (D.out.below H.out) x.out (by decide) (Au c f));have a7:=Hq ((E.out.below H.out).row g (Au c f));have H8:=Hq (H7.out.under (M:=g) (by simp;omega) (Mf (g:=g) (Nat.le_refl g) (show Below g w7 w7 from⟨rfl,rfl,rfl,Nat.le_refl _,fun _ _=>rfl⟩) (Au c f)));have Z:=Hq (setRow_heap _ _ _ (Au c f) _ _ x.out);have an:=Hq (ak.out.other (t:=36) x.out (by decide) (by decide) (by decide) (Au c f));generalize w7.setRow g (Au c f)=w8 at a6 a7 H8 Z an ⊢;clear H7 x aj ak H D
   try simp only[Act.put]
   by_cases y:o=0
   ·have bl:(o != 0)=false:=by rw[y];rfl
    have m:=v.out;rw[if_pos y]at m;have z:=Hq m;clear m y v;go_wp2_with fail;go_roundw
    case rel=>exact⟨k+1,c,f,ba,by omega,by go_num,H8.out,Z.out,an.out,af.out.1,z.out,(by rw[← b8.out];exact a6.out),(by rw[← b8.out];exact a7.out)⟩
    case measure=>simp[intOf];omega
   ·have bl:(o != 0)=true:=by rw[bne_iff_ne];exact y
    have m:=v.out;rw[if_neg y]at m;have z:=Hq m.symm;clear m y v
    by_cases A:o=0∨o=20
    ·have ao:=Hq (fun W=>show Cr 81 #[Ar s p,Ar c f,o] W (Ar c f) from by
      have h0:=Gn s p c f o W;rw[if_pos A]at h0;exact h0)
     have I:=Hq (show X=⟨c,ba,o⟩from by rw[z.out];unfold Dz;rw[if_pos A]);clear A z
     go_wp2_with(first
      |with_reducible refine lL H8.out.Am Az ?_
      |with_reducible refine lL Z.out Az ?_
      |(go_at_call 81;refine(ao.out _).mono ?_;rintro e w9 ⟨rfl,a1⟩;have H9:=Hq (H8.out.step a1))
      |with_reducible refine lS (Au c f) H9.out.As ?_)
     refine rT2 o H9.out.As Az ?_;exact a8.out _ I.out _ f ((an.out.below a1).other (t:=36) H9.out.As (by decide) (by decide) (by decide) _) (H9.out.row 1 (Au c f) _ rfl).below
    ·have ao:=Hq (fun W=>show Cr 81 #[Ar s p,Ar c f,o] W (Ar s p) from by
      have h0:=Gn s p c f o W;rw[if_neg A]at h0;exact h0)
     have I:=Hq (show X=⟨s,fs,o⟩from by rw[z.out];unfold Dz;rw[if_neg A]);clear A z
     go_wp2_with(first
      |with_reducible refine lL H8.out.Am Az ?_
      |with_reducible refine lL Z.out Az ?_
      |(go_at_call 81;refine(ao.out _).mono ?_;rintro e w9 ⟨rfl,a1⟩;have H9:=Hq (H8.out.step a1))
      |with_reducible refine lS (Au s p) H9.out.As ?_)
     refine rT2 o H9.out.As Az ?_;exact ar.out _ (H9.out.row 1 (Au s p) _ rfl).below o I.out
  ·obtain rfl:k=dl.length:=by omega
   have I:=Hq (show X=⟨s1,a,0⟩from by rw[← r,List.drop_length];rfl);clear L r F
   go_wp2_with(first|with_reducible refine lL HG.out Az ?_|with_reducible refine lS (Au s1 q1) u.out.As ?_)
   refine rT2 () u.out.As Az ?_;exact a8.out _ I.out _ q1 (b5.out.other (t:=36) u.out.As (by decide) (by decide) (by decide) _) (u.out.row 1 (Au s1 q1) _ rfl).below
end Go.Proofs.YtdfkambdagoojaaGreatDoor
