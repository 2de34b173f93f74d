import Derived.Test.YtdfkambdagoojaaGreatDoorHa00
import Derived.Test.YtdfkambdagoojaaGreatDoorHa08
import Derived.Test.YtdfkambdagoojaaGreatDoorHa17
import Derived.Test.YtdfkambdagoojaaGreatDoorHa11
set_option maxRecDepth 100000
set_option maxHeartbeats 16000000
set_option linter.unusedSimpArgs false
namespace Go.Proofs.YtdfkambdagoojaaGreatDoor
open Go.RowKit
theorem ris_any (d:Lg.Dk)(A:Option Addr)(c:Nat)(a:Int)(w:World):
 Calls Tryz.prog 82 #[diskV d A c,a] w fun e w'=>e= .returned (.bool (decide (Lg.hasD d a)))∧Below w.heap.size w w':=by
 obtain⟨L,left,down⟩:=d
 by_cases h0:0≤a
 ·by_cases h1:a<(L.length:Int)
  ·rw[decide_eq_true (show Lg.hasD ⟨L,left,down⟩ a from And.intro h0 h1)]
   go_enter Tryz.func82,Tryz.ntmps82
   go_wp2_with fail
   go_ret
   exact⟨by simp,allocB _ _⟩
  ·rw[decide_eq_false (show ¬ Lg.hasD ⟨L,left,down⟩ a from fun h=>h1 h.2)]
   go_enter Tryz.func82,Tryz.ntmps82
   go_wp2_with fail
   go_ret
   exact⟨by simp,allocB _ _⟩
 ·rw[decide_eq_false (show ¬ Lg.hasD ⟨L,left,down⟩ a from fun h=>h0 h.1)]
  go_enter Tryz.func82,Tryz.ntmps82
  go_wp2_with fail
  go_ret
  exact⟨by simp,allocB _ _⟩
theorem rdread_any (d:Lg.Dk)(A:Option Addr)(c:Nat)(a:Int)(w:World)(h:DiskR w d A c):
 Calls Tryz.prog 39 #[diskV d A c,a] w fun e w'=>e= .returned (.tuple #[.string (Lg.readD d a).1,.int .i64 (Lg.readD d a).2])∧Below w.heap.size w w':=by
 have HH:=Hq (fun W=>ris_any d A c a W)
 have HR:=Hq h.secs
 clear h
 unfold Lg.readD
 cases hd:d.down with
 |true=>
  obtain⟨L,left,down⟩:=d
  simp only at hd
  subst hd
  rw[if_pos rfl]
  dsimp only[diskV]
  go_enter Tryz.func39,Tryz.ntmps39
  go_wp2_with fail
  go_ret2
  exact⟨rfl,allocB _ _⟩
 |false=>
  rw[if_neg (by simp)]
  by_cases hh:Lg.hasD d a
  ·rw[if_pos hh]
   rw[decide_eq_true hh]at HH
   obtain⟨L,left,down⟩:=d
   simp only at hd
   subst hd
   unfold Lg.hasD at hh
   unfold Lg.secAt
   dsimp only[diskV]at hh HH HR ⊢
   obtain⟨h0,h1⟩:=hh
   obtain⟨k,rfl⟩:=Int.eq_ofNat_of_zero_le h0
   have hk:k<L.length:=by omega
   obtain⟨b,off,rfl,hc,hbl,hcell⟩:=read_at strC_len HR.out hk
   have q0:=hcell 0 _ rfl
   simp only[Nat.mul_one,Nat.add_zero]at q0
   rw[Int.toNat_natCast,List.getElem?_eq_getElem hk,Option.getD_some]
   generalize L[k]=x at q0 ⊢
   have Q0:=Hq q0
   clear q0 hcell h0
   go_enter Tryz.func39,Tryz.ntmps39
   go_upto_region 5 with(go_at_call 82;(with_reducible refine(HH.out _).mono ?_);rintro e w1 ⟨rfl,hb1⟩;have hbx:=blkCell (blkNew hb1))
   have q1:w1.cell? ⟨b,off+k,none⟩=some (.string x):=(joinB (allocB w _) hb1).cell (p:=⟨b,off+k,none⟩) hbl|>.trans Q0.out
   have HB1:=Hq (joinB (allocB w _) hb1)
   clear hb1
   go_wp2_with fail
   go_ret2
   exact⟨rfl,HB1.out⟩
  ·rw[if_neg hh]
   rw[decide_eq_false hh]at HH
   clear hh
   obtain⟨L,left,down⟩:=d
   simp only at hd
   subst hd
   dsimp only[diskV]at HH ⊢
   go_enter Tryz.func39,Tryz.ntmps39
   go_wp2_with (go_at_call 82;(with_reducible refine(HH.out _).mono ?_);rintro e w1 ⟨rfl,hb1⟩)
   go_ret2
   exact⟨rfl,joinB (allocB _ _) hb1⟩
open Sc
def secsK (d:Lg.Dk)(a:Nat):Nat→ByteArray
 |0=>⟨#[]⟩
 |k+1=>secsK d a k++Lg.secAt d ((a:Int)+(k:Int))
theorem secAt_nat {d:Lg.Dk}{a k:Nat}(h:a+k<d.sectors.length):Lg.secAt d ((a:Int)+(k:Int))=d.sectors[a+k]:=by
 unfold Lg.secAt
 rw[show((a:Int)+(k:Int)).toNat=a+k by omega,List.getElem?_eq_getElem h]
 rfl
theorem secsK_page {d:Lg.Dk}{a:Nat}(h:a+4≤d.sectors.length):secsK d a 4=pgAt d a:=by
 rw[pgAt_four h]
 show(((⟨#[]⟩++Lg.secAt d ((a:Int)+((0:Nat):Int)))++Lg.secAt d ((a:Int)+((1:Nat):Int)))++Lg.secAt d ((a:Int)+((2:Nat):Int)))++Lg.secAt d ((a:Int)+((3:Nat):Int))=_
 rw[secAt_nat (by omega),secAt_nat (by omega),secAt_nat (by omega),secAt_nat (by omega)]
 congr 3
theorem readD_on {d:Lg.Dk}(hd:d.down=false){a k:Nat}(h:a+k<d.sectors.length):Lg.readD d ((a:Int)+(k:Int))=(Lg.secAt d ((a:Int)+(k:Int)),0):=by
 unfold Lg.readD
 rw[if_neg (by rw[hd];decide),if_pos (show Lg.hasD d ((a:Int)+(k:Int))from⟨by omega,by omega⟩)]
theorem rreadpage_on {M:Nat}(d:Lg.Dk)(hd:DkW M d)(hdn:d.down=false)(A:Option Addr)(c:Nat)(a:Nat)(ha:a+4≤M)(hM:M≤100000)(w:World)(h:DiskR w d A c):
 Calls Tryz.prog 11 #[diskV d A c,.int .i64 (a:Int)] w fun e w'=>e= .returned (.tuple #[.string (pgAt d a),()])∧Below w.heap.size w w':=by
 have hlen:=hd.len
 have HRD:=Hq (fun k (hk:k<4) W (hb:Below w.heap.size w W)=>show Calls Tryz.prog 39 #[diskV d A c,.int .i64 ((a:Int)+((k:Nat):Int))] W fun e w'=>e= .returned (.tuple #[.string (Lg.secAt d ((a:Int)+(k:Int))),()])∧Below W.heap.size W w' from by
  have h9:=rdread_any d A c ((a:Int)+(k:Int)) W (h.below hb)
  rw[readD_on hdn (by omega)]at h9
  exact h9)
 have HSZ:=Hq (fun k (hk:k<4)=>show(Lg.secAt d ((a:Int)+((k:Nat):Int))).size=128 from by rw[secAt_nat (by omega)];exact hd.sz _ (List.getElem_mem _))
 have HPG:=Hq (secsK_page (d:=d) (a:=a) (by omega))
 have HK:=Hq (fun k=>show secsK d a (k+1)=secsK d a k++Lg.secAt d ((a:Int)+(k:Int))from rfl)
 have HK0:=Hq (show secsK d a 0=⟨#[]⟩from rfl)
 generalize pgAt d a=pg at HPG ⊢
 generalize secsK d a=sk at HPG HK HK0
 clear h hd hdn hlen
 go_enter Tryz.func11,Tryz.ntmps11
 go_upto_region 1 with fail
 have H0:=nW1 w #[.slice A d.sectors.length c,d.left,d.down] 28
 obtain⟨W0,hW0⟩:=exW H0
 rw[← hW0]at H0 ⊢
 clear hW0
 have HG:=Hq H0.out.get0
 have HB0:=Hq H0.out.below
 clear H0
 go_wp2_with fail
 go_loopw [1,6,7] (fun t o i wr=>∃ k:Nat,k≤4∧i= .int .i64 k∧o= .string (sk k)∧t= .int .i64 (a:Int)∧(sk k).size=k*128∧Below W0.heap.size W0 wr) (fun _ _ i _=>4-(intOf i).toNat)
 case atStart=>exact⟨0,Nat.zero_le _,rfl,by rw[HK0.out],rfl,by rw[HK0.out];rfl,Below.refl _ _⟩
 case round=>
  obtain⟨k,hk,rfl,rfl,rfl,hbs,hbw⟩:=hrel
  have HB:=Hq (HB0.out.trans (hbw.mono HB0.out.size))
  have HGR:=Hq (blkOld HG.out hbw)
  have hk0:(0:Int)≤(k:Int):=by omega
  by_cases hlt:k<4
  ·have hki:(k:Int)<4:=by omega
   have hwk:IntKind.i64.wrap ((k:Int)+1)=(k:Int)+1:=IntWalk.i64_in _ (by omega)
   have hwa:IntKind.i64.wrap ((a:Int)+(k:Int))=(a:Int)+(k:Int):=IntWalk.i64_in _ (by omega)
   have hgt:¬ (1099511627776:Int)<(a:Int):=by omega
   have HRK:=Hq (HRD.out k hlt)
   have hzs:=HSZ.out k hlt
   have HKK:=Hq (HK.out k)
   generalize Lg.secAt d ((a:Int)+(k:Int))=z at HRK hzs HKK
   have HKS:=Hq (show(sk (k+1)).size=(k+1)*128 from by rw[HKK.out,ByteArray.size_append];omega)
   generalize sk k=b at hbs HKK ⊢
   have hadd:∀ W:World,(Op.stringOp .add b z).run Tryz.prog W= .ok (.string (b++z)) W:=fun W=>run_string_add_sum W _ _ (by omega)
   go_wp2_with (first|(with_reducible refine lL HGR.out Tryz.underlying28 ?_)|(go_at_call 39;(with_reducible refine(HRK.out _ HB.out).mono ?_);rintro e w2 ⟨rfl,hb2⟩))
   go_roundw
   case rel=>exact⟨k+1,by omega,by go_num,by rw[← HKK.out],rfl,HKS.out,hbw.trans (hb2.mono hbw.size)⟩
   case measure=>simp[intOf];omega
  ·obtain rfl:k=4:=by omega
   go_wp2_with fail
   go_ret2
   exact⟨by rw[HPG.out];rfl,HB.out⟩
end Go.Proofs.YtdfkambdagoojaaGreatDoor
