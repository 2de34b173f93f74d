/- The walks of the page's statements that hold the reference beside the program. -/
import Derived.Test.YtgbihdlahghonaaPageAb
namespace Go.Proofs.Ytgbihdlahghonaa
open Go.RowKit

set_option maxRecDepth 100000 in
set_option maxHeartbeats 4000000 in
theorem looks_any (p : ByteArray) (i : Int) (hp : p.size ≤ 140737488355328) (w : World) :
    Calls Try.prog 3 #[.string p, .int .i64 i] w fun e w' => e = .returned (.bool true) ∧ Below w.heap.size w w' := by
  have HW := Lib.hid (fun W => awake_any W)
  by_cases hlong : 600 < p.size
  · have h600 : (600 : Int) < (p.size : Int) := by omega
    clear hlong
    go_enter Try.func3, Try.ntmps3
    go_wp2_with (first | (go_at_call 14; refine (HW.out _).mono ?_; rintro e w1 ⟨rfl, hb1⟩))
    go_ret
    exact ⟨rfl, hb1⟩
  · have h600 : (p.size : Int) ≤ 600 := by omega
    have hm : p.size ≤ 1048576 := by omega
    have HGet := Lib.hid (fun W => get_any_rec p i hm W)
    have RGet := Lib.hid (fun W => rget_any_rec p i hm W)
    have HRight := Lib.hid (fun W => right_any p hm W)
    have RRight := Lib.hid (fun W => rright_any p hm W)
    have HKind := Lib.hid (fun W => kind_any p hm W)
    have RKind := Lib.hid (fun W => rkind_any p hm W)
    have HLsn := Lib.hid (fun W => lsn_any p hm W)
    have RLsn := Lib.hid (fun W => rlsn_any p hm W)
    have HLink := Lib.hid (fun W => link_any p hm W)
    have RLink := Lib.hid (fun W => rlink_any p hm W)
    have HSlots := Lib.hid (fun W => slots_any p hm W)
    have RSlots := Lib.hid (fun W => rslots_any p hm W)
    have HFree := Lib.hid (fun W => free_any p hm W)
    have RFree := Lib.hid (fun W => rfree_any p hm W)
    have HRoom := Lib.hid (fun W => room_any p hm W)
    have RRoom := Lib.hid (fun W => rroom_any p hm W)
    have HSealed := Lib.hid (fun W => sealed_any p hm W)
    have RSealed := Lib.hid (fun W => rsealed_any p hm W)
    have HSeal := Lib.hid (fun W => seal_any p hm W)
    have RSeal := Lib.hid (fun W => rseal_any p hm W)
    generalize Pg.slotAt (leafP p).recs i = q at HGet RGet
    generalize (!decide (q.size = 0)) = b at HGet RGet
    generalize (leafP p).kind = n1 at HKind RKind
    generalize (leafP p).lsn = n2 at HLsn RLsn
    generalize (leafP p).link = n3 at HLink RLink
    generalize (leafP p).recs.length = n4 at HSlots RSlots
    generalize Pg.freeN (leafP p).recs = n5 at HFree RFree
    generalize roomP p = n6 at HRoom RRoom
    generalize sealedP p = b2 at HSealed RSealed
    generalize sealB p = s2 at HSeal RSeal
    generalize isPg p = b3 at HRight RRight
    clear hm hlong hp
    go_enter Try.func3, Try.ntmps3
    go_wp2_with (first | (go_at_call 14; refine (HW.out _).mono ?_; rintro e w1 ⟨rfl, hb1⟩) | (go_at_call 15; refine (HGet.out _).mono ?_; rintro e w2 ⟨rfl, hb2⟩) | (go_at_call 16; refine (RGet.out _).mono ?_; rintro e w3 ⟨rfl, hb3⟩) | (go_at_call 17; refine (HRight.out _).mono ?_; rintro e w4 ⟨rfl, hb4⟩) | (go_at_call 18; refine (RRight.out _).mono ?_; rintro e w5 ⟨rfl, hb5⟩) | (go_at_call 19; refine (HKind.out _).mono ?_; rintro e w6 ⟨rfl, hb6⟩) | (go_at_call 20; refine (RKind.out _).mono ?_; rintro e w7 ⟨rfl, hb7⟩) | (go_at_call 21; refine (HLsn.out _).mono ?_; rintro e w8 ⟨rfl, hb8⟩) | (go_at_call 22; refine (RLsn.out _).mono ?_; rintro e w9 ⟨rfl, hb9⟩) | (go_at_call 23; refine (HLink.out _).mono ?_; rintro e w10 ⟨rfl, hb10⟩) | (go_at_call 24; refine (RLink.out _).mono ?_; rintro e w11 ⟨rfl, hb11⟩) | (go_at_call 25; refine (HSlots.out _).mono ?_; rintro e w12 ⟨rfl, hb12⟩) | (go_at_call 26; refine (RSlots.out _).mono ?_; rintro e w13 ⟨rfl, hb13⟩) | (go_at_call 27; refine (HFree.out _).mono ?_; rintro e w14 ⟨rfl, hb14⟩) | (go_at_call 28; refine (RFree.out _).mono ?_; rintro e w15 ⟨rfl, hb15⟩) | (go_at_call 29; refine (HRoom.out _).mono ?_; rintro e w16 ⟨rfl, hb16⟩) | (go_at_call 30; refine (RRoom.out _).mono ?_; rintro e w17 ⟨rfl, hb17⟩) | (go_at_call 31; refine (HSealed.out _).mono ?_; rintro e w18 ⟨rfl, hb18⟩) | (go_at_call 32; refine (RSealed.out _).mono ?_; rintro e w19 ⟨rfl, hb19⟩) | (go_at_call 33; refine (HSeal.out _).mono ?_; rintro e w20 ⟨rfl, hb20⟩) | (go_at_call 34; refine (RSeal.out _).mono ?_; rintro e w21 ⟨rfl, hb21⟩))
    go_ret
    exact ⟨by simp, andThen (andThen (andThen (andThen (andThen (andThen (andThen (andThen (andThen (andThen (andThen (andThen (andThen (andThen (andThen (andThen (andThen (andThen (andThen (andThen (hb2) hb3) hb4) hb5) hb6) hb7) hb8) hb9) hb10) hb11) hb1) hb12) hb13) hb14) hb15) hb16) hb17) hb18) hb19) hb20) hb21⟩
set_option maxRecDepth 100000 in
set_option maxHeartbeats 4000000 in
theorem makes_any (p : ByteArray) (n : Int) (hp : p.size ≤ 140737488355328) (w : World) :
    Calls Try.prog 5 #[.string p, .int .i64 n] w fun e w' => e = .returned (.bool true) ∧ Below w.heap.size w w' := by
  have HW := Lib.hid (fun W => awake_any W)
  by_cases hlong : 600 < p.size
  · have h600 : (600 : Int) < (p.size : Int) := by omega
    clear hlong
    go_enter Try.func5, Try.ntmps5
    go_wp2_with (first | (go_at_call 14; refine (HW.out _).mono ?_; rintro e w1 ⟨rfl, hb1⟩))
    go_ret
    exact ⟨rfl, hb1⟩
  · have h600 : (p.size : Int) ≤ 600 := by omega
    have hm : p.size ≤ 1048576 := by omega
    have HNew := Lib.hid (fun W => new_any n W)
    have RNew := Lib.hid (fun W => rnew_any n W)
    have HSetLsn := Lib.hid (fun W => setlsn_any p n hm W)
    have RSetLsn := Lib.hid (fun W => rsetlsn_any p n hm W)
    have HSetLink := Lib.hid (fun W => setlink_any p n hm W)
    have RSetLink := Lib.hid (fun W => rsetlink_any p n hm W)
    generalize newB n = q1 at HNew RNew
    generalize lsnB p n = q2 at HSetLsn RSetLsn
    generalize linkB p n = q3 at HSetLink RSetLink
    clear hm hlong hp
    go_enter Try.func5, Try.ntmps5
    go_wp2_with (first | (go_at_call 14; refine (HW.out _).mono ?_; rintro e w1 ⟨rfl, hb1⟩) | (go_at_call 37; refine (HNew.out _).mono ?_; rintro e w2 ⟨rfl, hb2⟩) | (go_at_call 38; refine (RNew.out _).mono ?_; rintro e w3 ⟨rfl, hb3⟩) | (go_at_call 39; refine (HSetLsn.out _).mono ?_; rintro e w4 ⟨rfl, hb4⟩) | (go_at_call 40; refine (RSetLsn.out _).mono ?_; rintro e w5 ⟨rfl, hb5⟩) | (go_at_call 41; refine (HSetLink.out _).mono ?_; rintro e w6 ⟨rfl, hb6⟩) | (go_at_call 42; refine (RSetLink.out _).mono ?_; rintro e w7 ⟨rfl, hb7⟩))
    go_ret
    exact ⟨by simp, andThen (andThen (andThen (andThen (andThen (andThen (hb1) hb2) hb3) hb4) hb5) hb6) hb7⟩
set_option maxRecDepth 100000 in
set_option maxHeartbeats 4000000 in
theorem changes_any (p : ByteArray) (i : Int) (r : ByteArray) (hp : p.size ≤ 140737488355328) (hr : r.size ≤ 140737488355328) (w : World) :
    Calls Try.prog 6 #[.string p, .int .i64 i, .string r] w fun e w' => e = .returned (.bool true) ∧ Below w.heap.size w w' := by
  have HW := Lib.hid (fun W => awake_any W)
  by_cases hlong : 600 < p.size
  · have h600 : (600 : Int) < (p.size : Int) := by omega
    clear hlong
    go_enter Try.func6, Try.ntmps6
    go_wp2_with (first | (go_at_call 14; refine (HW.out _).mono ?_; rintro e w1 ⟨rfl, hb1⟩))
    go_ret
    exact ⟨rfl, hb1⟩
  · have h600 : (p.size : Int) ≤ 600 := by omega
    have hm : p.size ≤ 1048576 := by omega
    by_cases hlong2 : 600 < r.size
    · have h601 : (600 : Int) < (r.size : Int) := by omega
      clear hlong hlong2
      go_enter Try.func6, Try.ntmps6
      go_wp2_with (first | (go_at_call 14; refine (HW.out _).mono ?_; rintro e w1 ⟨rfl, hb1⟩))
      go_ret
      exact ⟨rfl, hb1⟩
    · have h601 : (r.size : Int) ≤ 600 := by omega
      have HPut := Lib.hid (fun W => pput_any p i r hm W)
      have RPut := Lib.hid (fun W => rpput_any p i r hm W)
      generalize putO p i r = o2 at HPut RPut
      obtain ⟨s2, e2⟩ := o2
      have HSet := Lib.hid (fun W => pset_any p i r hm W)
      have RSet := Lib.hid (fun W => rpset_any p i r hm W)
      generalize setO p i r = o4 at HSet RSet
      obtain ⟨s4, e4⟩ := o4
      have HAdd := Lib.hid (fun W => padd_any p i r hm W)
      have RAdd := Lib.hid (fun W => rpadd_any p i r hm W)
      generalize addO p i r = o6 at HAdd RAdd
      obtain ⟨s6, e6⟩ := o6
      have HCut := Lib.hid (fun W => pcut_any p i hm W)
      have RCut := Lib.hid (fun W => rpcut_any p i hm W)
      generalize cutO p i = o8 at HCut RCut
      obtain ⟨s8, e8⟩ := o8
      have HDel := Lib.hid (fun W => pdel_any p i hm W)
      have RDel := Lib.hid (fun W => rpdel_any p i hm W)
      generalize delO p i = o10 at HDel RDel
      obtain ⟨s10, e10⟩ := o10
      clear hm hlong hp hlong2 hr
      go_enter Try.func6, Try.ntmps6
      go_wp2_with (first | (go_at_call 14; refine (HW.out _).mono ?_; rintro e w1 ⟨rfl, hb1⟩) | (go_at_call 35; refine (HPut.out _).mono ?_; rintro e w2 ⟨rfl, hb2⟩) | (go_at_call 43; refine (RPut.out _).mono ?_; rintro e w3 ⟨rfl, hb3⟩) | (go_at_call 44; refine (HSet.out _).mono ?_; rintro e w4 ⟨rfl, hb4⟩) | (go_at_call 45; refine (RSet.out _).mono ?_; rintro e w5 ⟨rfl, hb5⟩) | (go_at_call 46; refine (HAdd.out _).mono ?_; rintro e w6 ⟨rfl, hb6⟩) | (go_at_call 47; refine (RAdd.out _).mono ?_; rintro e w7 ⟨rfl, hb7⟩) | (go_at_call 48; refine (HCut.out _).mono ?_; rintro e w8 ⟨rfl, hb8⟩) | (go_at_call 49; refine (RCut.out _).mono ?_; rintro e w9 ⟨rfl, hb9⟩) | (go_at_call 50; refine (HDel.out _).mono ?_; rintro e w10 ⟨rfl, hb10⟩) | (go_at_call 51; refine (RDel.out _).mono ?_; rintro e w11 ⟨rfl, hb11⟩))
      go_ret
      exact ⟨by simp, andThen (andThen (andThen (andThen (andThen (andThen (andThen (andThen (andThen (andThen (hb2) hb3) hb4) hb5) hb6) hb7) hb8) hb9) hb10) hb11) hb1⟩
set_option maxRecDepth 100000 in
set_option maxHeartbeats 4000000 in
theorem plain_any (p : ByteArray) (hm : p.size ≤ 1048576) (w : World) :
    Calls Try.prog 36 #[.string p] w fun e w' => e = .returned (.string (lsnB p ((leafP p).lsn : Nat))) ∧ Below w.heap.size w w' := by
  have H1 := Lib.hid (fun W => lsn_any p hm W)
  have H2 := Lib.hid (fun W => setlsn_any p ((leafP p).lsn : Nat) hm W)
  generalize lsnB p ((leafP p).lsn : Nat) = q at H2 ⊢
  generalize (leafP p).lsn = n at H1 H2
  go_enter Try.func36, Try.ntmps36
  go_wp2_with (first | (go_at_call 21; refine (H1.out _).mono ?_; rintro e w1 ⟨rfl, hb1⟩) | (go_at_call 39; refine (H2.out _).mono ?_; rintro e w2 ⟨rfl, hb2⟩))
  go_ret
  exact ⟨rfl, andThen hb1 hb2⟩
end Go.Proofs.Ytgbihdlahghonaa
