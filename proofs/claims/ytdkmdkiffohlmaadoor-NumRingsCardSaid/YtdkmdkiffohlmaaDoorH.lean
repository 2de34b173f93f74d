/- The walk over the rings of chapter 2. -/
import Derived.Test.YtdkmdkiffohlmaaDoorF
namespace Go.Proofs.YtdkmdkiffohlmaaDoor
open Go.RowKit NumPlain

theorem told_true {a b n : Int} (h : (told a b n).2 = true) : (told a b n).1 = n ∧ inN a = true ∧ inN b = true ∧ inN n = true := by
  unfold told at h ⊢
  split at h
  · rename_i hc
    simp only [Bool.and_eq_true] at hc
    rw [if_pos (by simp [hc])]
    exact ⟨rfl, hc.1.1, hc.1.2, hc.2⟩
  · cases h
theorem told_comm (a b n : Int) : told a b n = told b a n := by
  simp only [told, Bool.and_comm (inN a) (inN b)]
theorem addN_comm (a b : Int) : addN a b = addN b a := by rw [addN, addN, told_comm, Int.add_comm]
theorem mulN_comm (a b : Int) : mulN a b = mulN b a := by rw [mulN, mulN, told_comm, Int.mul_comm]
theorem sub_back {a b : Int} (h : (addN a b).2 = true) : subN (addN a b).1 b = (a, true) := by
  obtain ⟨e, ha, hb, hn⟩ := told_true h
  have hx : (addN a b).1 = a + b := e
  rw [hx, subN, told, hn, hb, show a + b - b = a by omega, ha]; rfl
theorem spread {a b c : Int} (h1 : (addN a b).2 = true) (h2 : (mulN a c).2 = true) (h3 : (mulN b c).2 = true) (h4 : (mulN (addN a b).1 c).2 = true) (h5 : (addN (mulN a c).1 (mulN b c).1).2 = true) :
    (mulN (addN a b).1 c).1 = (addN (mulN a c).1 (mulN b c).1).1 := by
  have e1 : (addN a b).1 = a + b := (told_true h1).1
  have e2 : (mulN a c).1 = a * c := (told_true h2).1
  have e3 : (mulN b c).1 = b * c := (told_true h3).1
  have e4 : (mulN (addN a b).1 c).1 = (addN a b).1 * c := (told_true h4).1
  have e5 : (addN (mulN a c).1 (mulN b c).1).1 = (mulN a c).1 + (mulN b c).1 := (told_true h5).1
  rw [e4, e5, e1, e2, e3, Int.add_mul]
theorem brackets {a b c : Int} (h1 : (mulN a b).2 = true) (h2 : (mulN b c).2 = true) (h3 : (mulN (mulN a b).1 c).2 = true) (h4 : (mulN a (mulN b c).1).2 = true) :
    (mulN (mulN a b).1 c).1 = (mulN a (mulN b c).1).1 := by
  have e1 : (mulN a b).1 = a * b := (told_true h1).1
  have e2 : (mulN b c).1 = b * c := (told_true h2).1
  have e3 : (mulN (mulN a b).1 c).1 = (mulN a b).1 * c := (told_true h3).1
  have e4 : (mulN a (mulN b c).1).1 = a * (mulN b c).1 := (told_true h4).1
  rw [e3, e4, e1, e2, Int.mul_assoc]

/-- A call that answers two values and leaves all as it was. -/
abbrev Gives (f : FuncId) (a b : Int) (v : Int) (ok : Bool) : Prop :=
  ∀ W, Calls Tryd.prog f #[.int .i64 a, .int .i64 b] W fun e w' => e = .returned (.tuple #[.int .i64 v, .bool ok]) ∧ W = w'
theorem gives_of {f : FuncId} {a b : Int} {r : Int × Bool} (h : ∀ W, Calls Tryd.prog f #[.int .i64 a, .int .i64 b] W fun e w' => e = two r ∧ W = w') {v : Int} {ok : Bool} (hr : r = (v, ok)) : Gives f a b v ok := by
  subst hr; exact h

set_option maxRecDepth 100000 in
set_option maxHeartbeats 4000000 in
/-- The walk, once every answer is known. -/
theorem rings_walk (a b c x p r s t u f g back : Int) (i k m n o v d e ok : Bool) (w : World) (hv : Vars w)
    (H1 : Hid (Gives 15 a b x i)) (H2 : Hid (Gives 15 b a x i)) (H3 : Hid (Gives 19 a b p k)) (H4 : Hid (Gives 19 b a p k)) (H5 : Hid (Gives 17 x b back ok))
    (H6 : Hid (Gives 19 a c r m)) (H7 : Hid (Gives 19 b c s n)) (H8 : Hid (Gives 19 x c t o)) (H9 : Hid (Gives 15 r s u v)) (H10 : Hid (Gives 19 p c f d)) (H11 : Hid (Gives 19 a s g e))
    (hback : i = true → ok = true ∧ back = a) (hspread : i = true → m = true → n = true → o = true → v = true → t = u)
    (hbrackets : k = true → n = true → d = true → e = true → f = g) : Calls Tryd.prog 6 #[.int .i64 a, .int .i64 b, .int .i64 c] w (Yes w) := by
  have HV := Lib.hid hv
  have K1 := Lib.hid (show ∀ W, Calls Tryd.prog 14 #[.int .i64 x, .bool i, .int .i64 x, .bool i] W fun e w' => e = .returned (.bool true) ∧ W = w' from same_same (x, i))
  have K2 := Lib.hid (show ∀ W, Calls Tryd.prog 14 #[.int .i64 p, .bool k, .int .i64 p, .bool k] W fun e w' => e = .returned (.bool true) ∧ W = w' from same_same (p, k))
  clear hv
  have hA : (i = false ∨ (i = true ∧ ok = true ∧ (back == a) = true ∧ (back != a) = false)) := by
    cases i
    · exact .inl rfl
    · exact .inr ⟨rfl, (hback rfl).1, by simpa using (hback rfl).2, by simpa using (hback rfl).2⟩
  have hB : i = true → (m = false) ∨ (m = true ∧ n = false) ∨ (m = true ∧ n = true ∧ o = false) ∨ (m = true ∧ n = true ∧ o = true ∧ v = false) ∨ (m = true ∧ n = true ∧ o = true ∧ v = true ∧ (t == u) = true ∧ (t != u) = false) := by
    cases i <;> cases m <;> cases n <;> cases o <;> cases v <;> simp_all
  have hC : k = false ∨ (k = true ∧ n = false) ∨ (k = true ∧ n = true ∧ d = false) ∨ (k = true ∧ n = true ∧ d = true ∧ e = false) ∨ (k = true ∧ n = true ∧ d = true ∧ e = true ∧ (f == g) = true ∧ (f != g) = false) := by
    cases k <;> cases n <;> cases d <;> cases e <;> simp_all
  clear hback hspread hbrackets
  rcases hA with rfl | ⟨rfl, rfl, a1, a2⟩
  · clear hB
    rcases hC with rfl | ⟨rfl, rfl⟩ | ⟨rfl, rfl, rfl⟩ | ⟨rfl, rfl, rfl, rfl⟩ | ⟨rfl, rfl, rfl, rfl, c1, c2⟩
    all_goals
      go_enter Tryd.func6, Tryd.ntmps6
      go_wp2_with (first | (go_at_call 15; (with_reducible refine (H1.out _).mono ?_); rintro e w' ⟨rfl, rfl⟩) | (go_at_call 15; (with_reducible refine (H2.out _).mono ?_); rintro e w' ⟨rfl, rfl⟩) | (go_at_call 15; (with_reducible refine (H9.out _).mono ?_); rintro e w' ⟨rfl, rfl⟩) | (go_at_call 19; (with_reducible refine (H3.out _).mono ?_); rintro e w' ⟨rfl, rfl⟩) | (go_at_call 19; (with_reducible refine (H4.out _).mono ?_); rintro e w' ⟨rfl, rfl⟩) | (go_at_call 19; (with_reducible refine (H6.out _).mono ?_); rintro e w' ⟨rfl, rfl⟩) | (go_at_call 19; (with_reducible refine (H7.out _).mono ?_); rintro e w' ⟨rfl, rfl⟩) | (go_at_call 19; (with_reducible refine (H8.out _).mono ?_); rintro e w' ⟨rfl, rfl⟩) | (go_at_call 19; (with_reducible refine (H10.out _).mono ?_); rintro e w' ⟨rfl, rfl⟩) | (go_at_call 19; (with_reducible refine (H11.out _).mono ?_); rintro e w' ⟨rfl, rfl⟩) | (go_at_call 17; (with_reducible refine (H5.out _).mono ?_); rintro e w' ⟨rfl, rfl⟩) | (go_at_call 10; refine (awake_any _ HV.out).mono ?_; rintro e w' ⟨rfl, hb⟩) | (go_at_call 14; (with_reducible refine (K1.out _).mono ?_); rintro e w' ⟨rfl, rfl⟩) | (go_at_call 14; (with_reducible refine (K2.out _).mono ?_); rintro e w' ⟨rfl, rfl⟩))
      go_ret
      exact ⟨rfl, hb⟩
  · rcases hB rfl with rfl | ⟨rfl, rfl⟩ | ⟨rfl, rfl, rfl⟩ | ⟨rfl, rfl, rfl, rfl⟩ | ⟨rfl, rfl, rfl, rfl, b1, b2⟩
    all_goals
      clear hB
      rcases hC with rfl | ⟨rfl, h1⟩ | ⟨rfl, h1, rfl⟩ | ⟨rfl, h1, rfl, rfl⟩ | ⟨rfl, h1, rfl, rfl, c1, c2⟩
    all_goals first | (exact absurd h1 (by decide)) | skip
    all_goals try subst h1
    all_goals try clear h1
    all_goals
      go_enter Tryd.func6, Tryd.ntmps6
      go_wp2_with (first | (go_at_call 15; (with_reducible refine (H1.out _).mono ?_); rintro e w' ⟨rfl, rfl⟩) | (go_at_call 15; (with_reducible refine (H2.out _).mono ?_); rintro e w' ⟨rfl, rfl⟩) | (go_at_call 15; (with_reducible refine (H9.out _).mono ?_); rintro e w' ⟨rfl, rfl⟩) | (go_at_call 19; (with_reducible refine (H3.out _).mono ?_); rintro e w' ⟨rfl, rfl⟩) | (go_at_call 19; (with_reducible refine (H4.out _).mono ?_); rintro e w' ⟨rfl, rfl⟩) | (go_at_call 19; (with_reducible refine (H6.out _).mono ?_); rintro e w' ⟨rfl, rfl⟩) | (go_at_call 19; (with_reducible refine (H7.out _).mono ?_); rintro e w' ⟨rfl, rfl⟩) | (go_at_call 19; (with_reducible refine (H8.out _).mono ?_); rintro e w' ⟨rfl, rfl⟩) | (go_at_call 19; (with_reducible refine (H10.out _).mono ?_); rintro e w' ⟨rfl, rfl⟩) | (go_at_call 19; (with_reducible refine (H11.out _).mono ?_); rintro e w' ⟨rfl, rfl⟩) | (go_at_call 17; (with_reducible refine (H5.out _).mono ?_); rintro e w' ⟨rfl, rfl⟩) | (go_at_call 10; refine (awake_any _ HV.out).mono ?_; rintro e w' ⟨rfl, hb⟩) | (go_at_call 14; (with_reducible refine (K1.out _).mono ?_); rintro e w' ⟨rfl, rfl⟩) | (go_at_call 14; (with_reducible refine (K2.out _).mono ?_); rintro e w' ⟨rfl, rfl⟩))
      go_ret
      exact ⟨rfl, hb⟩

theorem rings_any (a b c : Int) (w : World) (hv : Vars w) : Calls Tryd.prog 6 #[.int .i64 a, .int .i64 b, .int .i64 c] w (Yes w) :=
  rings_walk a b c (addN a b).1 (mulN a b).1 (mulN a c).1 (mulN b c).1 (mulN (addN a b).1 c).1 (addN (mulN a c).1 (mulN b c).1).1 (mulN (mulN a b).1 c).1 (mulN a (mulN b c).1).1 (subN (addN a b).1 b).1
    (addN a b).2 (mulN a b).2 (mulN a c).2 (mulN b c).2 (mulN (addN a b).1 c).2 (addN (mulN a c).1 (mulN b c).1).2 (mulN (mulN a b).1 c).2 (mulN a (mulN b c).1).2 (subN (addN a b).1 b).2 w hv
    (Lib.hid (gives_of (add_any a b) rfl)) (Lib.hid (gives_of (add_any b a) (addN_comm b a))) (Lib.hid (gives_of (mul_any a b) rfl)) (Lib.hid (gives_of (mul_any b a) (mulN_comm b a)))
    (Lib.hid (gives_of (sub_any _ b) rfl)) (Lib.hid (gives_of (mul_any a c) rfl)) (Lib.hid (gives_of (mul_any b c) rfl)) (Lib.hid (gives_of (mul_any _ c) rfl)) (Lib.hid (gives_of (add_any _ _) rfl))
    (Lib.hid (gives_of (mul_any _ c) rfl)) (Lib.hid (gives_of (mul_any a _) rfl))
    (fun h => by have := sub_back h; rw [this]; exact ⟨rfl, rfl⟩)
    (fun h1 h2 h3 h4 h5 => spread h1 h2 h3 h4 h5) (fun h1 h2 h3 h4 => brackets h1 h2 h3 h4)
end Go.Proofs.YtdkmdkiffohlmaaDoor
