import Derived.Test.YtpogpkonojhakaaGreatDoorHk00
import Derived.Test.YtpogpkonojhakaaGreatDoorHk17
import Derived.Test.YtpogpkonojhakaaGreatDoorHk34
import Derived.Test.YtpogpkonojhakaaGreatDoorHk35
import Derived.Test.YtpogpkonojhakaaGreatDoorHk36
set_option maxRecDepth 100000
set_option maxHeartbeats 16000000
set_option linter.unusedSimpArgs false
namespace Go.Proofs.YtpogpkonojhakaaGreatDoor.heapKeeps
open Go.ChangeShapes Go.WideShapes Go.ChangeAt Go.RowKit
open Go.ChangeMaps (open_string shut_string)
theorem contract (H:Type)(enc:TypeId×Value→H)(W:World)(base:Nat)(args:Array Value)(ds gs:List (DataW H))(before:List MemPlace)
 (hval:∀ (j:Nat) t v,Tryz.f3.params[j]? =some t→args[j]? =some v→Value.okWide Tryz.prog W .any base t v)
 (hW:DataW.Whole enc Tryz.prog Tryz.f3.params.toList Rows.heapKeepsSpec.vars false W args.toList ds gs before) (hL:laidMet Tryz.prog laidAll W)
 (hsz:(DataW.weightsEach Tryz.prog (Tryz.f3.params.toList++[]) (ds++gs)).all (·≤reachBytes)=true):
 Calls Tryz.prog 3 args W fun e W'=>∃ v,e= .returned v∧Rows.heapKeepsSpec.post enc Tryz.prog Tryz.f3 false true false false W args v W':=by
 have hW':=hW
 have hlt:=hW.lt
 obtain⟨p,q,hA0,hV,rfl,hfz,hnd⟩:=hW
 have hA:DataW.TrodAll enc Tryz.prog W 0 (fun _=>true) true Tryz.f3.params.toList args.toList ds p:=hA0
 rw[Tryz.params3]at hA hval hsz
 have hA9:=hA
 obtain⟨v0,vs0,d0,ds0,p0,q0,hargs,rfl,rfl,h0,r0⟩:=trodAll_cons hA
 obtain⟨rfl,rfl,rfl⟩:=trodAll_nil r0
 obtain rfl:args=#[v0]:=by cases args;simp_all
 obtain⟨rfl,rfl⟩:=trodVars_none hV
 clear hA0
 obtain⟨A0,c0,l0,rfl,hr0,hp0,hn0⟩:=open_hkas (hval 0 22 v0 rfl rfl) h0 (light_of (j:=0) hsz rfl rfl)
 simp only[List.append_nil]at hW' hlt
 simp only[List.append_nil]at hA9
 refine(lkeeps_any l0 A0 c0 hp0 hn0 W (vars_of_laid hL) hr0).mono fun e W' ⟨he,hg⟩=>?_
 subst he
 exact⟨_,rfl,post_again (k:=[]) hW' (fun _ _ _=>trodAll_cons_mk (shut_bool Tryz.underlying4 _) trodAll_mk0) (fun sp hsp=>trodAll_again laidOut hg Kr hA9 hlt hsp) (fun _ _=>rfl) (by simp)
  hg (ok_one Kr rfl (okWide_bool_mk Tryz.underlying4 _))⟩
theorem reads (os:Os){H:Type}(enc:TypeId×Value→H):∃ places,DataW.whole enc Tryz.prog ((World.doorLaid Tryz.prog 333 os).forCall (fun _ _=>0) ⟨#[],#['s'],[]⟩).memory Tryz.f3.params.toList Rows.heapKeepsSpec.vars false (#['s']:Array Value).toList 8=some ([.nil],[],places):=
 ⟨[],by kernel_rfl⟩
theorem lifted (os:Os)(started:os.Started)(H:Type)(enc:TypeId×Value→H)(F:Stop.Interp):
 ReturnsInHanded {} Tryz.checked os 3 .any ((OpenSpec.ofChange Rows.heapKeepsSpec).preRow enc Tryz.prog Tryz.f3 Rows.heapKeepsRow.domain false Rows.heapKeepsRow.laid) (((OpenSpec.ofChange Rows.heapKeepsSpec).at F).post enc Tryz.prog Tryz.f3 false true false false):=by
 obtain⟨places,hx⟩:=reads os enc
 refine returnsInHanded_of_row (C:=Tryz.checked) (s:=OpenSpec.ofChange Rows.heapKeepsSpec) own started Kr Tryz.func3
  (witness_row_atRef (enc:=enc) (C:=Tryz.checked) false (World.doorLaid Tryz.prog 333 os) #['s'] rfl Kr Kr Kr
    (OpenSpec.preRow_of_cond 8 hx Kr (fun k hk=>by cases hk) Kr (laid_met os _))) ?_
 intro W base args ds gs before hval hW _ _ hsz hL _ _
 exact contract H enc W base args ds gs before hval hW hL hsz
theorem said:Rows.HeapKeepsSaid:=
 OpenClaim.holds_of_cond 3 Tryz.f3 rfl rfl rfl rfl rfl rfl rfl ⟨rfl,rfl,rfl,rfl,rfl⟩ rfl rfl rfl rfl rfl Kr Tryz.func3 facts
  (of_decide_eq_true Kr) (by unfold Func.isWrapper;first|(rw[if_pos (by decide+kernel)];kernel_rfl)|(rw[if_neg (by decide+kernel)];exact⟨rfl,rfl⟩))
  (fun os started H enc _ F=>by rw[OpenClaim.pre_eq_preRow];exact lifted os started H enc F)
theorem _root_.Go.Proofs.YtpogpkonojhakaaGreatDoor.heapKeeps_card:Rows.HeapKeepsCardSaid:=
 Claim7.holds_tied_plain_at .later [] _ _ _ _ said (fun _ h=>by cases h) Kr (fun _ h=>by cases h) heapKeeps_row_tie rfl ⟨rfl,rfl⟩ Kr rfl plain Kr
end Go.Proofs.YtpogpkonojhakaaGreatDoor.heapKeeps
