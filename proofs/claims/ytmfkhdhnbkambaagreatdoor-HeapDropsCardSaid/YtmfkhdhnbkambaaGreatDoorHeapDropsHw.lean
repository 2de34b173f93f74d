import Derived.Test.YtmfkhdhnbkambaaGreatDoorHw00
import Derived.Test.YtmfkhdhnbkambaaGreatDoorHw17
import Derived.Test.YtmfkhdhnbkambaaGreatDoorHw34
import Derived.Test.YtmfkhdhnbkambaaGreatDoorHw35
import Derived.Test.YtmfkhdhnbkambaaGreatDoorHw36
set_option maxRecDepth 100000
set_option maxHeartbeats 16000000
set_option linter.unusedSimpArgs false
namespace Go.Proofs.YtmfkhdhnbkambaaGreatDoor.heapDrops
open Go.ChangeShapes Go.WideShapes Go.ChangeAt Go.RowKit
open Go.ChangeMaps (open_string shut_string)
theorem contract (H:Type)(enc:TypeId×Value→H)(W:World)(base:Nat)(args:Array Value)(ds gs:List (DataW H))(before:List MemPlace)
 (hval:∀ (j:Nat) t v,Tryz.f5.params[j]? =some t→args[j]? =some v→Value.okWide Tryz.prog W .any base t v)
 (hW:DataW.Whole enc Tryz.prog Tryz.f5.params.toList Rows.heapDropsSpec.vars false W args.toList ds gs before) (hL:laidMet Tryz.prog laidAll W)
 (hsz:(DataW.weightsEach Tryz.prog (Tryz.f5.params.toList++[]) (ds++gs)).all (·≤reachBytes)=true):
 Calls Tryz.prog 5 args W fun e W'=>∃ v,e= .returned v∧Rows.heapDropsSpec.post enc Tryz.prog Tryz.f5 false true false false W args v W':=by
 have hW':=hW
 have hlt:=hW.lt
 obtain⟨p,q,hA0,hV,rfl,hfz,hnd⟩:=hW
 have hA:DataW.TrodAll enc Tryz.prog W 0 (fun _=>true) true Tryz.f5.params.toList args.toList ds p:=hA0
 rw[Tryz.params5]at hA hval hsz
 have hA9:=hA
 obtain⟨v0,vs0,d0,ds0,p0,q0,hargs,rfl,rfl,h0,r0⟩:=trodAll_cons hA
 obtain⟨v1,vs1,d1,ds1,p1,q1,rfl,rfl,rfl,h1,r1⟩:=trodAll_cons r0
 obtain⟨rfl,rfl,rfl⟩:=trodAll_nil r1
 obtain rfl:args=#[v0,v1]:=by cases args;simp_all
 obtain⟨rfl,rfl⟩:=trodVars_none hV
 clear hA0
 obtain⟨A0,c0,l0,rfl,hr0,hn0⟩:=open_nums (hval 0 80 v0 rfl rfl) h0 (light_of (j:=0) hsz rfl rfl)
 obtain⟨A1,c1,l1,rfl,hr1,hn1⟩:=open_nums (hval 1 80 v1 rfl rfl) h1 (light_of (j:=1) hsz rfl rfl)
 simp only[List.append_nil]at hW' hlt
 simp only[List.append_nil]at hA9
 refine(ldrops_any l0 l1 A0 A1 c0 c1 hn0 hn1 W (vars_of_laid hL) hr0 hr1).mono fun e W' ⟨he,hg⟩=>?_
 subst he
 exact⟨_,rfl,post_again (k:=[]) hW' (fun _ _ _=>trodAll_cons_mk (shut_bool Tryz.underlying4 _) trodAll_mk0) (fun sp hsp=>trodAll_again laidOut hg Kr hA9 hlt hsp) (fun _ _=>rfl) (by simp)
  hg (ok_one Kr rfl (okWide_bool_mk Tryz.underlying4 _))⟩
theorem reads (os:Os){H:Type}(enc:TypeId×Value→H):∃ places,DataW.whole enc Tryz.prog ((World.doorLaid Tryz.prog 334 os).forCall (fun _ _=>0) ⟨#[],#["s","s"],[]⟩).memory Tryz.f5.params.toList Rows.heapDropsSpec.vars false (#["s","s"]:Array Value).toList 8=some ([.nil,.nil],[],places):=
 ⟨[],by kernel_rfl⟩
theorem lifted (os:Os)(started:os.Started)(H:Type)(enc:TypeId×Value→H)(F:Stop.Interp):
 ReturnsInHanded {} Tryz.checked os 5 .any ((OpenSpec.ofChange Rows.heapDropsSpec).preRow enc Tryz.prog Tryz.f5 Rows.heapDropsRow.domain false Rows.heapDropsRow.laid) (((OpenSpec.ofChange Rows.heapDropsSpec).at F).post enc Tryz.prog Tryz.f5 false true false false):=by
 obtain⟨places,hx⟩:=reads os enc
 refine returnsInHanded_of_row (C:=Tryz.checked) (s:=OpenSpec.ofChange Rows.heapDropsSpec) own started Kr Tryz.func5
  (witness_row_atRef (enc:=enc) (C:=Tryz.checked) false (World.doorLaid Tryz.prog 334 os) #["s","s"] rfl Kr Kr Kr
    (OpenSpec.preRow_of_cond 8 hx Kr (fun k hk=>by cases hk) Kr (laid_met os _))) ?_
 intro W base args ds gs before hval hW _ _ hsz hL _ _
 exact contract H enc W base args ds gs before hval hW hL hsz
theorem said:Rows.HeapDropsSaid:=
 OpenClaim.holds_of_cond 5 Tryz.f5 rfl rfl rfl rfl rfl rfl rfl ⟨rfl,rfl,rfl,rfl,rfl⟩ rfl rfl rfl rfl rfl Kr Tryz.func5 facts
  (of_decide_eq_true Kr) (by unfold Func.isWrapper;first|(rw[if_pos (by decide+kernel)];kernel_rfl)|(rw[if_neg (by decide+kernel)];exact⟨rfl,rfl⟩))
  (fun os started H enc _ F=>by rw[OpenClaim.pre_eq_preRow];exact lifted os started H enc F)
theorem _root_.Go.Proofs.YtmfkhdhnbkambaaGreatDoor.heapDrops_card:Rows.HeapDropsCardSaid:=
 Claim7.holds_tied_plain_at .later [] _ _ _ _ said (fun _ h=>by cases h) Kr (fun _ h=>by cases h) heapDrops_row_tie rfl ⟨rfl,rfl⟩ Kr rfl plain Kr
end Go.Proofs.YtmfkhdhnbkambaaGreatDoor.heapDrops
