/- The walks over three statements of chapter 2: sums, texts, quotients. -/
import Derived.Test.YtdkmdkiffohlmaaDoorE
namespace Go.Proofs.YtdkmdkiffohlmaaDoor
open Go.RowKit NumPlain

theorem says_any (a b : Int) (w : World) (hv : Vars w) : Calls Tryd.prog 5 #[.int .i64 a, .int .i64 b] w (Yes w) := by
  have HV := Lib.hid hv
  clear hv
  go_enter Tryd.func5, Tryd.ntmps5
  go_wp2_with (first | (go_at_call 15; refine (add_any _ _ _).mono ?_; rintro e w' ⟨rfl, rfl⟩) | (go_at_call 16; refine (radd_any _ _ _).mono ?_; rintro e w' ⟨rfl, rfl⟩) | (go_at_call 17; refine (sub_any _ _ _).mono ?_; rintro e w' ⟨rfl, rfl⟩) | (go_at_call 18; refine (rsub_any _ _ _).mono ?_; rintro e w' ⟨rfl, rfl⟩) | (go_at_call 19; refine (mul_any _ _ _).mono ?_; rintro e w' ⟨rfl, rfl⟩) | (go_at_call 20; refine (rmul_any _ _ _).mono ?_; rintro e w' ⟨rfl, rfl⟩) | (go_at_call 10; refine (awake_any _ HV.out).mono ?_; rintro e w' ⟨rfl, hb⟩) | (go_at_call 12; refine (in_any _ _).mono ?_; rintro e w' ⟨rfl, rfl⟩) | (go_at_call 21; refine (rin_any _ _).mono ?_; rintro e w' ⟨rfl, rfl⟩) | (go_at_call 14; refine (same_same _ _).mono ?_; rintro e w' ⟨rfl, rfl⟩))
  go_ret
  exact ⟨rfl, hb⟩

theorem itoa_inj {a b : Int} (h : Lib.itoa a = Lib.itoa b) : a = b := by
  have := congrArg signed h
  rwa [signed_itoa, signed_itoa] at this
theorem parse_text (n : Int) : parseN (Lib.itoa n) = if inN n then (n, true) else (0, false) := by
  cases h : inN n
  · exact parseN_none (fun v hv e => by have := itoa_inj e; subst this; rw [h] at hv; cases hv)
  · exact parseN_itoa h

theorem texts_any (n : Int) (h0 : -9223372036854775808 ≤ n) (h1 : n ≤ 9223372036854775807) (w : World) (hv : Vars w) : Calls Tryd.prog 3 #[.int .i64 n] w (Yes w) := by
  have HV := Lib.hid hv
  clear hv
  have hl := Lib.itoa_length_le n h0 h1
  obtain ⟨t, ht⟩ : ∃ t : ByteArray, (⟨(Lib.itoa n).toArray⟩ : ByteArray) = t := ⟨_, rfl⟩
  have htl : t.data.toList = Lib.itoa n := by rw [← ht]
  have hts : t.size ≤ 281474976710656 := by
    have : t.data.toList.length = t.size := by simp
    rw [htl] at this; omega
  have HT := Lib.hid (show ∀ W, Vars W → Calls Tryd.prog 8 #[.int .i64 n] W fun e w' => e = .returned (.string t) ∧ Below W.heap.size W w' from fun W hW => by
    have := text_any n h0 h1 W hW
    rwa [ht] at this)
  have HR := Lib.hid (show ∀ W, Calls Tryd.prog 11 #[.int .i64 n] W fun e w' => e = .returned (.string t) ∧ ∃ m, w' = W.drewN m from fun W => by
    have := rtext_any n.natAbs n W (Nat.le_refl _) h0 h1
    rwa [ht] at this)
  have HP := Lib.hid (fun W hW => parse_any t hts W hW)
  rw [htl, parse_text] at HP
  clear ht htl hts hl
  cases hin : inN n
  all_goals
    rw [hin] at HP
    simp only [if_true, if_false, Bool.false_eq_true] at HP
    go_enter Tryd.func3, Tryd.ntmps3
    go_wp2_with (first | (go_at_call 8; refine (HT.out _ HV.out).mono ?_; rintro e w' ⟨rfl, hb⟩; have HV2 := Lib.hid (HV.out.below hb)) | (go_at_call 9; refine (HP.out _ HV2.out).mono ?_; rintro e w' ⟨rfl, hb2⟩; have HV3 := Lib.hid (HV2.out.below hb2)) | (go_at_call 10; refine (awake_any _ HV3.out).mono ?_; rintro e w' ⟨rfl, hb3⟩) | (go_at_call 11; refine (HR.out _).mono ?_; rintro e w' ⟨rfl, m, rfl⟩) | (go_at_call 12; refine (in_any _ _).mono ?_; rintro e w' ⟨rfl, rfl⟩))
    go_ret
    exact ⟨rfl, andThen (andThen (andThen hb hb2) hb3) (quiet_below _ _)⟩
end Go.Proofs.YtdkmdkiffohlmaaDoor
