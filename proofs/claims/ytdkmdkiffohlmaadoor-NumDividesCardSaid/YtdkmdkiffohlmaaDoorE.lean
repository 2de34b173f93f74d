/- The walks over the five statements of chapter 2 and their two helpers. -/
import Derived.Test.YtdkmdkiffohlmaaDoorD
namespace Go.Proofs.YtdkmdkiffohlmaaDoor
open Go.RowKit NumPlain

theorem quiet_below (w : World) (m : Nat) : Below w.heap.size w (w.drewN m) := ⟨rfl, rfl, rfl, Nat.le_refl _, fun _ _ => rfl⟩

/-- A statement's answer: true, and nothing that was there has turned. -/
abbrev Yes (w : World) (e : Ending) (w' : World) : Prop := e = .returned (.bool true) ∧ Below w.heap.size w w'

theorem div_ex (w : World) : Calls Tryd.prog 22 #[.int .i64 (-7), .int .i64 2] w fun e w' => e = .returned (.tuple #[.int .i64 (-3), .bool true]) ∧ w = w' := by
  have h : divN (-7) 2 = (-3, true) := by decide
  have := div_any (-7) 2 w
  rw [h] at this; exact this
theorem mod_ex (w : World) : Calls Tryd.prog 24 #[.int .i64 (-7), .int .i64 2] w fun e w' => e = .returned (.tuple #[.int .i64 (-1), .bool true]) ∧ w = w' := by
  have h : modN (-7) 2 = (-1, true) := by decide
  have := mod_any (-7) 2 w
  rw [h] at this; exact this
theorem itoa_ex : Lib.itoa (-12) = [45, 49, 50] := by
  have e : (-12 : Int) = -((12 : Nat) : Int) := rfl
  rw [e, Lib.itoa_neg 12 (by omega), Lib.decDigits, dif_neg (by omega), Lib.decDigits, dif_pos (by omega)]; rfl
theorem parse_ex (w : World) (hv : Vars w) : Calls Tryd.prog 9 #[.string ⟨#[45, 49, 50]⟩] w fun e w' => e = .returned (.tuple #[.int .i64 (-12), .bool true]) ∧ Below w.heap.size w w' := by
  have h : parseN (⟨#[45, 49, 50]⟩ : ByteArray).data.toList = (-12, true) := by
    show parseN [45, 49, 50] = _
    rw [← itoa_ex]
    exact parseN_itoa (by decide)
  have := parse_any ⟨#[45, 49, 50]⟩ (by decide) w hv
  rw [h] at this; exact this
theorem text_ex (w : World) (hv : Vars w) : Calls Tryd.prog 8 #[.int .i64 (-12)] w fun e w' => e = .returned (.string ⟨#[45, 49, 50]⟩) ∧ Below w.heap.size w w' := by
  have := text_any (-12) (by omega) (by omega) w hv
  rw [itoa_ex] at this; exact this
theorem in_ex (w : World) : Calls Tryd.prog 12 #[.int .i64 1000000000000000] w fun e w' => e = .returned (.bool true) ∧ w = w' := in_any 1000000000000000 w

theorem awake_any (w : World) (hv : Vars w) : Calls Tryd.prog 10 #[] w fun e w' => e = .returned (.bool true) ∧ Below w.heap.size w w' := by
  have HV := Lib.hid hv
  clear hv
  go_enter Tryd.func10, Tryd.ntmps10
  go_wp2_with (first | (go_at_call 22; refine (div_ex _).mono ?_; rintro e w' ⟨rfl, rfl⟩) | (go_at_call 24; refine (mod_ex _).mono ?_; rintro e w' ⟨rfl, rfl⟩) | (go_at_call 9; refine (parse_ex _ HV.out).mono ?_; rintro e w' ⟨rfl, hb⟩; have HV2 := Lib.hid (HV.out.below hb)) | (go_at_call 8; refine (text_ex _ HV2.out).mono ?_; rintro e w' ⟨rfl, hb2⟩) | (go_at_call 12; refine (in_ex _).mono ?_; rintro e w' ⟨rfl, rfl⟩))
  go_ret
  exact ⟨rfl, andThen hb hb2⟩

theorem same_any (a b : Int) (x y : Bool) (w : World) : Calls Tryd.prog 14 #[.int .i64 a, .bool x, .int .i64 b, .bool y] w fun e w' => e = .returned (.bool (decide (a = b) && x == y)) ∧ w = w' := by
  by_cases h : a = b
  · subst h
    go_enter Tryd.func14, Tryd.ntmps14
    go_wp2_with fail
    go_ret
    exact ⟨by simp, rfl⟩
  · have h' : (a == b) = false := by simpa using h
    go_enter Tryd.func14, Tryd.ntmps14
    go_wp2_with fail
    go_ret
    exact ⟨by simp [h], rfl⟩
/-- Two answers that are one. -/
theorem same_same (r : Int × Bool) (w : World) : Calls Tryd.prog 14 #[.int .i64 r.1, .bool r.2, .int .i64 r.1, .bool r.2] w fun e w' => e = .returned (.bool true) ∧ w = w' := by
  have := same_any r.1 r.1 r.2 r.2 w
  simpa using this

theorem reads_any (s : ByteArray) (hlim : s.size ≤ 281474976710656) (w : World) (hv : Vars w) : Calls Tryd.prog 4 #[.string s] w (Yes w) := by
  have HP := Lib.hid (fun W hW => parse_any s hlim W hW)
  have HQ := Lib.hid (fun W => rparse_any s W (by omega))
  have HV := Lib.hid hv
  cases hr : parseN s.data.toList with | mk v ok =>
  rw [hr] at HP HQ
  clear hv
  cases ok
  · clear hr
    go_enter Tryd.func4, Tryd.ntmps4
    go_wp2_with (first | (go_at_call 9; refine (HP.out _ HV.out).mono ?_; rintro e w' ⟨rfl, hb⟩; have HV2 := Lib.hid (HV.out.below hb)) | (go_at_call 13; refine (HQ.out _).mono ?_; rintro e w' ⟨rfl, m, rfl⟩; have HV3 := Lib.hid (HV2.out.below (quiet_below _ m))) | (go_at_call 10; refine (awake_any _ HV3.out).mono ?_; rintro e w' ⟨rfl, hb3⟩) | (go_at_call 14; refine (same_same (v, false) _).mono ?_; rintro e w' ⟨rfl, rfl⟩))
    go_ret
    exact ⟨rfl, andThen (andThen hb (quiet_below _ _)) hb3⟩
  · obtain ⟨hin, heq⟩ := parseN_ok hr
    obtain ⟨b1, b2⟩ := inN_true hin
    have HT := Lib.hid (show ∀ W, Vars W → Calls Tryd.prog 8 #[.int .i64 v] W fun e w' => e = .returned (.string s) ∧ Below W.heap.size W w' from fun W hW => by
      have := text_any v (by omega) (by omega) W hW
      rwa [bytes_eq heq] at this)
    clear hr heq
    go_enter Tryd.func4, Tryd.ntmps4
    go_wp2_with (first | (go_at_call 9; refine (HP.out _ HV.out).mono ?_; rintro e w' ⟨rfl, hb⟩; have HV2 := Lib.hid (HV.out.below hb)) | (go_at_call 13; refine (HQ.out _).mono ?_; rintro e w' ⟨rfl, m, rfl⟩; have HV3 := Lib.hid (HV2.out.below (quiet_below _ m))) | (go_at_call 10; refine (awake_any _ HV3.out).mono ?_; rintro e w' ⟨rfl, hb3⟩; have HV4 := Lib.hid (HV3.out.below hb3)) | (go_at_call 14; refine (same_same (v, true) _).mono ?_; rintro e w' ⟨rfl, rfl⟩) | (go_at_call 8; refine (HT.out _ HV4.out).mono ?_; rintro e w' ⟨rfl, hb4⟩) | (go_at_call 12; refine (in_any _ _).mono ?_; rintro e w' ⟨rfl, rfl⟩))
    go_ret
    exact ⟨rfl, andThen (andThen (andThen hb (quiet_below _ _)) hb3) hb4⟩
end Go.Proofs.YtdkmdkiffohlmaaDoor
