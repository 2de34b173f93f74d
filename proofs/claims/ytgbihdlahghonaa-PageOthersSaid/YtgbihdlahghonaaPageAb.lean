/- The example of the page's statements: the walk. -/
import Derived.Test.YtgbihdlahghonaaPageAa
namespace Go.Proofs.Ytgbihdlahghonaa
open Go.RowKit

set_option maxRecDepth 100000 in
set_option maxHeartbeats 4000000 in
theorem awake_any (w : World) :
    Calls Try.prog 14 #[] w fun e w' => e = .returned (.bool true) ∧ Below w.heap.size w w' := by
  have h5 : exP.size = 512 := ex5
  have h13 : exQ.size = 512 := ex13
  have h16 : (sealB exP).size = 512 := ex16
  have HN := Lib.hid (fun W => new_any 2 W)
  rw [ex0] at HN
  have HN5 := Lib.hid (fun W => new_any 5 W)
  rw [ex15] at HN5
  have HP := Lib.hid (fun W => pput_any exP 1 ⟨#[97, 98]⟩ (by omega) W)
  rw [ex1] at HP
  have HG := Lib.hid (fun W => get_any_rec exQ 1 (by omega) W)
  rw [ex2] at HG
  have HP2 := Lib.hid (fun W => pput_any exQ 1 ⟨#[99]⟩ (by omega) W)
  rw [ex3] at HP2
  have HC := Lib.hid (fun W => pcut_any exQ 1 (by omega) W)
  rw [ex4] at HC
  have HR := Lib.hid (fun W => room_any exP (by omega) W)
  rw [ex7] at HR
  have HS := Lib.hid (fun W => slots_any exQ (by omega) W)
  rw [ex8] at HS
  have HF := Lib.hid (fun W => free_any exQ (by omega) W)
  rw [ex9] at HF
  have HK := Lib.hid (fun W => kind_any exQ (by omega) W)
  rw [ex10] at HK
  have HS1 := Lib.hid (fun W => sealed_any exP (by omega) W)
  rw [ex11] at HS1
  have HSl := Lib.hid (fun W => seal_any exP (by omega) W)
  have HS2 := Lib.hid (fun W => sealed_any (sealB exP) (by omega) W)
  rw [ex12] at HS2
  have h6 : exP.extract 17 19 = ⟨#[2, 0]⟩ := ex6
  have h14 : exQ.extract 510 512 = ⟨#[97, 98]⟩ := ex14
  generalize sealB exP = S at HSl HS2 h16
  generalize exP = P at HN HP HC HR HS1 HSl h5 h6
  generalize exQ = Q at HP HG HP2 HC HS HF HK h13 h14
  clear h16
  go_enter Try.func14, Try.ntmps14
  go_wp2_with (first
    | (go_at_call 37; ((with_reducible refine (HN.out _).mono ?_); rintro e w1 ⟨rfl, hb1⟩))
    | (go_at_call 37; ((with_reducible refine (HN5.out _).mono ?_); rintro e w6 ⟨rfl, hb6⟩))
    | (go_at_call 35; ((with_reducible refine (HP.out _).mono ?_); rintro e w2 ⟨rfl, hb2⟩))
    | (go_at_call 35; ((with_reducible refine (HP2.out _).mono ?_); rintro e w4 ⟨rfl, hb4⟩))
    | (go_at_call 15; refine (HG.out _).mono ?_; rintro e w3 ⟨rfl, hb3⟩)
    | (go_at_call 48; refine (HC.out _).mono ?_; rintro e w5 ⟨rfl, hb5⟩)
    | (go_at_call 29; refine (HR.out _).mono ?_; rintro e w7 ⟨rfl, hb7⟩)
    | (go_at_call 25; refine (HS.out _).mono ?_; rintro e w8 ⟨rfl, hb8⟩)
    | (go_at_call 27; refine (HF.out _).mono ?_; rintro e w9 ⟨rfl, hb9⟩)
    | (go_at_call 19; refine (HK.out _).mono ?_; rintro e w10 ⟨rfl, hb10⟩)
    | (go_at_call 31; ((with_reducible refine (HS1.out _).mono ?_); rintro e w11 ⟨rfl, hb11⟩))
    | (go_at_call 33; refine (HSl.out _).mono ?_; rintro e w12 ⟨rfl, hb12⟩)
    | (go_at_call 31; ((with_reducible refine (HS2.out _).mono ?_); rintro e w13 ⟨rfl, hb13⟩)))
  go_ret
  exact ⟨rfl, andThen (andThen (andThen (andThen (andThen (andThen (andThen (andThen (andThen (andThen (andThen (andThen hb1 hb2) hb3) hb4) hb5) hb6) hb7) hb8) hb9) hb10) hb11) hb12) hb13⟩
end Go.Proofs.Ytgbihdlahghonaa
