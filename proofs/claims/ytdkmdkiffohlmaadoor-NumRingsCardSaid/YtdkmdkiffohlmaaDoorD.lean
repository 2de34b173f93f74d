/- The walk over the reference's Parse. -/
import Derived.Test.YtdkmdkiffohlmaaDoorC
namespace Go.Proofs.YtdkmdkiffohlmaaDoor
open Go.RowKit NumPlain

theorem ret_two {a b : Int} {x y : Bool} (h : a = b) (k : x = y) : Ending.returned (.tuple #[.int .i64 a, .bool x]) = .returned (.tuple #[.int .i64 b, .bool y]) := by rw [h, k]

theorem gather_snoc (s : ByteArray) (k : Nat) (h : k < s.size) : gather 0 (s.data.toList.take (k + 1)) = if 48 ≤ (s[k].toNat : Int) ∧ (s[k].toNat : Int) ≤ 57 then 10 * gather 0 (s.data.toList.take k) + s[k].toNat - 48 else gather 0 (s.data.toList.take k) := by
  have e : s.data.toList.take (k + 1) = s.data.toList.take k ++ [s[k]] := by
    rw [List.take_succ_eq_append_getElem (by simpa using h)]; rfl
  rw [e, gather_append]
  simp only [gather]
  by_cases hc : 48 ≤ s[k].toNat ∧ s[k].toNat ≤ 57
  · rw [if_pos hc, if_pos (by omega)]
  · rw [if_neg hc, if_neg (by omega)]

theorem gather_lt (s : ByteArray) (h17 : s.size ≤ 17) (k : Nat) : 0 ≤ gather 0 (s.data.toList.take k) ∧ gather 0 (s.data.toList.take k) < 100000000000000000 := by
  obtain ⟨h1, h2⟩ := gather_bound (s.data.toList.take k) 0 (by omega)
  refine ⟨h1, Int.lt_of_lt_of_le h2 ?_⟩
  have hl : (s.data.toList.take k).length ≤ 17 := by
    have : s.data.toList.length = s.size := by simp
    rw [List.length_take]; omega
  have : (10 : Int) ^ (s.data.toList.take k).length ≤ 10 ^ 17 := by exact_mod_cast Nat.pow_le_pow_right (n := 10) (by omega) hl
  omega

/-- The end of the reference's Parse: what becomes of the number that was gathered. -/
def closeR (s : ByteArray) (n : Int) : Int × Bool := if inN n && decide (Lib.itoa n = s.data.toList) then (n, true) else (0, false)

/-- The last test of the reference's Parse, as a contract of the two functions that it calls. -/
theorem take_all (s : ByteArray) : s.data.toList.take s.size = s.data.toList := List.take_of_length_le (by simp)
theorem signed_first (s : ByteArray) (h : 0 < s.size) : signed s.data.toList = if ((s[0].toNat : Int) == 45) = true then - gather 0 s.data.toList else gather 0 s.data.toList := by
  have e : s.data.toList.head? = some s[0] := by
    rw [List.head?_eq_getElem?, List.getElem?_eq_getElem (by simpa using h)]; rfl
  unfold signed
  rw [e]
  by_cases hc : s[0] = 45
  · rw [if_pos (by rw [hc]), if_pos (by rw [hc]; rfl)]
  · rw [if_neg (by simpa using hc), if_neg]
    intro h1
    apply hc
    have h2 : (s[0].toNat : Int) = 45 := by simpa using h1
    have h3 : s[0].toNat = 45 := by exact_mod_cast h2
    exact UInt8.toNat_inj.1 h3
theorem signed_none (s : ByteArray) (h : ¬ 0 < s.size) : signed s.data.toList = gather 0 s.data.toList := by
  have e : s.data.toList = [] := List.eq_nil_of_length_eq_zero (by have h9 : s.data.toList.length = s.size := (by simp); omega)
  rw [e]; rfl

set_option maxHeartbeats 400000 in
theorem rparse_short (s : ByteArray) (h17 : s.size ≤ 17) (w : World) :
    Calls Tryd.prog 13 #[.string s] w fun e w' => e = two (closeR s (signed s.data.toList)) ∧ ∃ m, w' = w.drewN m := by
  go_enter Tryd.func13, Tryd.ntmps13
  go_wp2_with fail
  go_loop [4, 5] (fun n i => ∃ k : Nat, k ≤ s.size ∧ i = .int .i64 k ∧ n = .int .i64 (gather 0 (s.data.toList.take k))) (fun _ i => s.size - (intOf i).toNat)
  case atStart => exact ⟨0, Nat.zero_le _, rfl, rfl⟩
  case round =>
    obtain ⟨k, hk, rfl, rfl⟩ := hrel
    obtain ⟨g0, g1⟩ := gather_lt s h17 k
    by_cases hlt : k < s.size
    · have HG := Lib.hid (gather_snoc s k hlt)
      go_wp2_with fail
      all_goals
        go_round
        case rel => exact ⟨k + 1, by omega, by go_num, by rw [HG.out]; first | (rw [if_pos (by omega)]; done) | (rw [if_pos (by omega)]; go_num) | (rw [if_neg (by omega)])⟩
        case measure => simp [intOf]; omega
    · obtain rfl : k = s.size := by omega
      have HT := Lib.hid (take_all s)
      generalize hg : gather 0 (s.data.toList.take s.size) = g at g0 g1 ⊢
      have hg' : gather 0 s.data.toList = g := by rw [← HT.out]; exact hg
      obtain ⟨v, hv, hcase⟩ : ∃ v : Int, signed s.data.toList = v ∧ ((0 < s.size ∧ ((s[0]?.getD 0).toNat : Int) = 45 ∧ v = -g) ∨ (0 < s.size ∧ ((s[0]?.getD 0).toNat : Int) ≠ 45 ∧ v = g) ∨ (s.size = 0 ∧ v = g)) := by
        refine ⟨_, rfl, ?_⟩
        by_cases hp : 0 < s.size
        · rw [signed_first s hp, hg', show s[0]?.getD 0 = s[0] by simp [hp]]
          by_cases hc : (s[0].toNat : Int) = 45
          · exact .inl ⟨hp, hc, by rw [if_pos (by simpa using hc)]⟩
          · exact .inr (.inl ⟨hp, hc, by rw [if_neg (by simpa using hc)]⟩)
        · exact .inr (.inr ⟨by omega, by rw [signed_none s hp, hg']⟩)
      have HV := Lib.hid hv
      have vb : -100000000000000000 < v ∧ v < 100000000000000000 := by omega
      obtain ⟨v0, v1⟩ := vb
      clear hv hg hg' HT
      cases hin : inN v
      · have HR := Lib.hid (show closeR s v = (0, false) by simp [closeR, hin])
        have HX := True.intro
        rcases hcase with ⟨hp, hc, rfl⟩ | ⟨hp, hc, rfl⟩ | ⟨hp, rfl⟩
        · have hc' : ((s[0].toNat : Int) == 45) = true := by simpa [hp] using hc
          clear hc
          go_wp2_with (go_at_call 21; refine (rin_any _ _).mono ?_; rintro e w' ⟨rfl, rfl⟩)
          go_ret2
          exact ⟨by rw [HV.out, HR.out]; rfl, 0, rfl⟩
        · have hc' : ((s[0].toNat : Int) == 45) = false := by simpa [hp] using hc
          clear hc
          go_wp2_with (go_at_call 21; refine (rin_any _ _).mono ?_; rintro e w' ⟨rfl, rfl⟩)
          go_ret2
          exact ⟨by rw [HV.out, HR.out]; rfl, 0, rfl⟩
        · go_wp2_with (go_at_call 21; refine (rin_any _ _).mono ?_; rintro e w' ⟨rfl, rfl⟩)
          go_ret2
          exact ⟨by rw [HV.out, HR.out]; rfl, 0, rfl⟩
      · by_cases heq : Lib.itoa v = s.data.toList
        · have HR := Lib.hid (show closeR s v = (v, true) by simp [closeR, hin, heq])
          have HX := Lib.hid (show ∀ W, Calls Tryd.prog 11 #[.int .i64 v] W fun e w' => e = .returned (.string s) ∧ ∃ m, w' = W.drewN m from fun W => by
            have := rtext_any v.natAbs v W (Nat.le_refl _) (by omega) (by omega)
            rwa [bytes_eq heq] at this)
          clear heq
          rcases hcase with ⟨hp, hc, rfl⟩ | ⟨hp, hc, rfl⟩ | ⟨hp, rfl⟩
          · have hc' : ((s[0].toNat : Int) == 45) = true := by simpa [hp] using hc
            clear hc
            go_wp2_with (first | (go_at_call 21; refine (rin_any _ _).mono ?_; rintro e w' ⟨rfl, rfl⟩) | (go_at_call 11; refine (HX.out _).mono ?_; rintro e w' ⟨rfl, m, rfl⟩))
            go_ret2
            exact ⟨by rw [HV.out, HR.out]; rfl, _, rfl⟩
          · have hc' : ((s[0].toNat : Int) == 45) = false := by simpa [hp] using hc
            clear hc
            go_wp2_with (first | (go_at_call 21; refine (rin_any _ _).mono ?_; rintro e w' ⟨rfl, rfl⟩) | (go_at_call 11; refine (HX.out _).mono ?_; rintro e w' ⟨rfl, m, rfl⟩))
            go_ret2
            exact ⟨by rw [HV.out, HR.out]; rfl, _, rfl⟩
          · go_wp2_with (first | (go_at_call 21; refine (rin_any _ _).mono ?_; rintro e w' ⟨rfl, rfl⟩) | (go_at_call 11; refine (HX.out _).mono ?_; rintro e w' ⟨rfl, m, rfl⟩))
            go_ret2
            exact ⟨by rw [HV.out, HR.out]; rfl, _, rfl⟩
        · have HR := Lib.hid (show closeR s v = (0, false) by simp [closeR, hin, heq])
          obtain ⟨t, ht⟩ : ∃ t : ByteArray, (⟨(Lib.itoa v).toArray⟩ : ByteArray) = t := ⟨_, rfl⟩
          have HX := Lib.hid (show ∀ W, Calls Tryd.prog 11 #[.int .i64 v] W fun e w' => e = .returned (.string t) ∧ ∃ m, w' = W.drewN m from fun W => by
            have := rtext_any v.natAbs v W (Nat.le_refl _) (by omega) (by omega)
            rwa [ht] at this)
          have hq : (t.toList == s.toList) = false := by
            rw [ByteArray.toList_eq, ByteArray.toList_eq, ← ht]
            simpa using heq
          clear heq ht
          rcases hcase with ⟨hp, hc, rfl⟩ | ⟨hp, hc, rfl⟩ | ⟨hp, rfl⟩
          · have hc' : ((s[0].toNat : Int) == 45) = true := by simpa [hp] using hc
            clear hc
            go_wp2_with (first | (go_at_call 21; refine (rin_any _ _).mono ?_; rintro e w' ⟨rfl, rfl⟩) | (go_at_call 11; refine (HX.out _).mono ?_; rintro e w' ⟨rfl, m, rfl⟩))
            go_ret2
            exact ⟨by rw [HV.out, HR.out]; rfl, _, rfl⟩
          · have hc' : ((s[0].toNat : Int) == 45) = false := by simpa [hp] using hc
            clear hc
            go_wp2_with (first | (go_at_call 21; refine (rin_any _ _).mono ?_; rintro e w' ⟨rfl, rfl⟩) | (go_at_call 11; refine (HX.out _).mono ?_; rintro e w' ⟨rfl, m, rfl⟩))
            go_ret2
            exact ⟨by rw [HV.out, HR.out]; rfl, _, rfl⟩
          · go_wp2_with (first | (go_at_call 21; refine (rin_any _ _).mono ?_; rintro e w' ⟨rfl, rfl⟩) | (go_at_call 11; refine (HX.out _).mono ?_; rintro e w' ⟨rfl, m, rfl⟩))
            go_ret2
            exact ⟨by rw [HV.out, HR.out]; rfl, _, rfl⟩

theorem closeR_eq (s : ByteArray) (h : s.size ≤ 17) : closeR s (signed s.data.toList) = parseN s.data.toList := by
  rw [← parseR_eq, parseR, if_neg (by have h9 : s.data.toList.length = s.size := (by simp); omega)]
  rfl
theorem rparse_any (s : ByteArray) (w : World) (hs : s.size ≤ 9223372036854775807) :
    Calls Tryd.prog 13 #[.string s] w fun e w' => e = two (parseN s.data.toList) ∧ ∃ m, w' = w.drewN m := by
  by_cases h : s.size ≤ 17
  · rw [← closeR_eq s h]; exact rparse_short s h w
  · have HR := Lib.hid (show parseN s.data.toList = (0, false) by
      rw [← parseR_eq, parseR, if_pos (by have h9 : s.data.toList.length = s.size := (by simp); omega)])
    go_enter Tryd.func13, Tryd.ntmps13
    go_wp2_with fail
    go_ret2
    exact ⟨by rw [HR.out]; rfl, 0, rfl⟩
end Go.Proofs.YtdkmdkiffohlmaaDoor
