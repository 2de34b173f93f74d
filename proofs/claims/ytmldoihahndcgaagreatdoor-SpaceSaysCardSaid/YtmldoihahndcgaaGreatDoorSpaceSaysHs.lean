import Derived.Test.YtmldoihahndcgaaGreatDoorHs00
import Derived.Test.YtmldoihahndcgaaGreatDoorHs31
import Derived.Test.YtmldoihahndcgaaGreatDoorHs32
set_option maxRecDepth 100000
set_option maxHeartbeats 16000000
set_option linter.unusedSimpArgs false
namespace Go.Proofs.YtmldoihahndcgaaGreatDoor.spaceSays
open Go.ChangeShapes Go.WideShapes Go.ChangeAt Go.RowKit
open Go.ChangeMaps (open_string shut_string)
theorem contract (H:Type)(enc:TypeId×Value→H)(W:World)(base:Nat)(args:Array Value)(ds gs:List (DataW H))(before:List MemPlace)
 (hval:∀ (j:Nat) t v,Tryz.f3.params[j]? =some t→args[j]? =some v→Value.okWide Tryz.prog W .any base t v)
 (hW:DataW.Whole enc Tryz.prog Tryz.f3.params.toList Rows.spaceSaysSpec.vars false W args.toList ds gs before) (_hL:laidMet Tryz.prog laidAll W)
 (hsz:(DataW.weightsEach Tryz.prog (Tryz.f3.params.toList++[]) (ds++gs)).all (·≤reachBytes)=true):
 Calls Tryz.prog 3 args W fun e W'=>∃ v,e= .returned v∧Rows.spaceSaysSpec.post enc Tryz.prog Tryz.f3 false true false false W args v W':=by
 have hW':=hW
 have hlt:=hW.lt
 obtain⟨p,q,hA0,hV,rfl,hfz,hnd⟩:=hW
 have hA:DataW.TrodAll enc Tryz.prog W 0 (fun _=>true) true Tryz.f3.params.toList args.toList ds p:=hA0
 rw[Tryz.params3]at hA hval hsz
 have hA9:=hA
 obtain⟨v0,vs0,d0,ds0,p0,q0,hargs,rfl,rfl,h0,r0⟩:=trodAll_cons hA
 obtain⟨v1,vs1,d1,ds1,p1,q1,rfl,rfl,rfl,h1,r1⟩:=trodAll_cons r0
 obtain⟨v2,vs2,d2,ds2,p2,q2,rfl,rfl,rfl,h2,r2⟩:=trodAll_cons r1
 obtain⟨rfl,rfl,rfl⟩:=trodAll_nil r2
 obtain rfl:args=#[v0,v1,v2]:=by cases args;simp_all
 obtain⟨rfl,rfl⟩:=trodVars_none hV
 clear hA0
 obtain⟨a0,rfl,rfl,rfl,w0⟩:=open_int Tryz.underlying5 (hval 0 5 v0 rfl rfl) h0
 obtain⟨x0,rfl,b0⟩:=u8_nat w0
 obtain⟨a1,rfl,rfl,rfl,w1⟩:=open_int Tryz.underlying5 (hval 1 5 v1 rfl rfl) h1
 obtain⟨x1,rfl,b1⟩:=u8_nat w1
 obtain⟨A2,c2,l2,rfl,hl2⟩:=open_sacs (hval 2 22 v2 rfl rfl) h2
 simp only[List.append_nil]at hW' hlt
 simp only[List.append_nil]at hA9
 refine(lsays_any x0 x1 b0 b1 l2 A2 c2 W hl2).mono fun e W' ⟨he,hg⟩=>?_
 subst he
 exact⟨_,rfl,post_again (k:=[]) hW' (fun _ _ _=>trodAll_cons_mk (shut_bool Tryz.underlying4 _) trodAll_mk0) (fun sp hsp=>trodAll_again laidOut hg Kr hA9 hlt hsp) (fun _ _=>rfl) (by simp)
  hg (ok_one Kr rfl (okWide_bool_mk Tryz.underlying4 _))⟩
theorem reads (os:Os){H:Type}(enc:TypeId×Value→H):∃ places,DataW.whole enc Tryz.prog ((World.doorLaid Tryz.prog 393 os).forCall (fun _ _=>0) ⟨#[],#[.int .u8 0,.int .u8 0,'s'],[]⟩).memory Tryz.f3.params.toList Rows.spaceSaysSpec.vars false (#[.int .u8 0,.int .u8 0,'s']:Array Value).toList 8=some ([.lit (.int .u8 0),.lit (.int .u8 0),.nil],[],places):=
 ⟨[],by kernel_rfl⟩
theorem lifted (os:Os)(started:os.Started)(H:Type)(enc:TypeId×Value→H)(F:Stop.Interp):
 ReturnsInHanded {} Tryz.checked os 3 .any ((OpenSpec.ofChange Rows.spaceSaysSpec).preRow enc Tryz.prog Tryz.f3 Rows.spaceSaysRow.domain false Rows.spaceSaysRow.laid) (((OpenSpec.ofChange Rows.spaceSaysSpec).at F).post enc Tryz.prog Tryz.f3 false true false false):=by
 obtain⟨places,hx⟩:=reads os enc
 refine returnsInHanded_of_row (C:=Tryz.checked) (s:=OpenSpec.ofChange Rows.spaceSaysSpec) own started Kr Tryz.func3
  (witness_row_atRef (enc:=enc) (C:=Tryz.checked) false (World.doorLaid Tryz.prog 393 os) #[.int .u8 0,.int .u8 0,'s'] rfl Kr Kr Kr
    (OpenSpec.preRow_of_cond 8 hx Kr (fun k hk=>by cases hk) Kr (laid_met os _))) ?_
 intro W base args ds gs before hval hW _ _ hsz hL _ _
 exact contract H enc W base args ds gs before hval hW hL hsz
theorem said:Rows.SpaceSaysSaid:=
 OpenClaim.holds_of_cond 3 Tryz.f3 rfl rfl rfl rfl rfl rfl rfl ⟨rfl,rfl,rfl,rfl,rfl⟩ rfl rfl rfl rfl rfl Kr Tryz.func3 facts
  (of_decide_eq_true Kr) (by unfold Func.isWrapper;first|(rw[if_pos (by decide+kernel)];kernel_rfl)|(rw[if_neg (by decide+kernel)];exact⟨rfl,rfl⟩))
  (fun os started H enc _ F=>by rw[OpenClaim.pre_eq_preRow];exact lifted os started H enc F)
theorem _root_.Go.Proofs.YtmldoihahndcgaaGreatDoor.spaceSays_card:Rows.SpaceSaysCardSaid:=
 Claim7.holds_tied_plain_at .later [] _ _ _ _ said (fun _ h=>by cases h) Kr (fun _ h=>by cases h) spaceSays_row_tie rfl ⟨rfl,rfl⟩ Kr rfl plain Kr
end Go.Proofs.YtmldoihahndcgaaGreatDoor.spaceSays
