/- The walks over the reference of values: the order of two texts; the reference's Less. -/
import Derived.Test.YtgbihdlahghonaaGs04
import Derived.Maps.AppendAt
import Derived.Deep.AppendLies
import Derived.OwnWalk
import Derived.Deep.MidRow
import Derived.Test.YtgbihdlahghonaaGs03
import Derived.Orders
namespace Nd
open Go.Lib
theorem cb_drop (a b : List UInt8) (k : Nat) (ha : k < a.length) (hb : k < b.length) : compareBytes (a.drop k) (b.drop k) = if a[k] < b[k] then -1 else if b[k] < a[k] then 1 else compareBytes (a.drop (k + 1)) (b.drop (k + 1)) := by
  rw [List.drop_eq_getElem_cons ha, List.drop_eq_getElem_cons hb]; rfl
theorem cb_past (a b : List UInt8) (k : Nat) (h : k ≤ a.length) (h2 : k ≤ b.length) (he : k = a.length ∨ k = b.length) : compareBytes (a.drop k) (b.drop k) = compareInt (a.length : Int) (b.length : Int) := by
  unfold compareInt
  rcases he with he | he
  · rw [List.drop_of_length_le (by omega)]
    by_cases hb : k = b.length
    · rw [List.drop_of_length_le (by omega), if_neg (by omega), if_neg (by omega)]; rfl
    · rw [List.drop_eq_getElem_cons (by omega), if_pos (by omega)]; rfl
  · rw [List.drop_of_length_le (l := b) (by omega)]
    by_cases ha : k = a.length
    · rw [List.drop_of_length_le (by omega), if_neg (by omega), if_neg (by omega)]; rfl
    · rw [List.drop_eq_getElem_cons (by omega), if_neg (by omega), if_pos (by omega)]; rfl
end Nd
namespace Go.Proofs.Ytgbihdlahghonaa
open Go.RowKit

set_option maxRecDepth 100000 in
theorem ints_any (x y : Int) (w : World) :
    Calls Try.prog 122 #[.int .i64 x, .int .i64 y] w fun e w' => e = .returned (.int .i64 (Lib.compareInt x y)) ∧ w = w' := by
  unfold Lib.compareInt
  by_cases h1 : x < y
  · rw [if_pos h1]
    go_enter Try.func122, Try.ntmps122
    go_wp2_with fail
    go_ret
    exact ⟨rfl, rfl⟩
  · rw [if_neg h1]
    by_cases h2 : x > y
    · rw [if_pos h2]
      have h3 : y < x := h2
      have h4 : y ≤ x := by omega
      clear h1 h2
      go_enter Try.func122, Try.ntmps122
      go_wp2_with fail
      go_ret
      exact ⟨rfl, rfl⟩
    · rw [if_neg h2]
      have h3 : x ≤ y := by omega
      have h4 : y ≤ x := by omega
      clear h1 h2
      go_enter Try.func122, Try.ntmps122
      go_wp2_with fail
      go_ret
      exact ⟨rfl, rfl⟩

theorem list_get (s : ByteArray) (k : Nat) (h : k < s.size) : s.data.toList[k]'(by simpa using h) = s[k] := rfl

theorem ints_keeps (x y : Int) (w0 u : World) (h : Below w0.heap.size w0 u) :
    Calls Try.prog 122 #[.int .i64 x, .int .i64 y] u fun e w' => e = .returned (.int .i64 (Lib.compareInt x y)) ∧ Below w0.heap.size w0 w' :=
  (ints_any x y u).mono fun _ _ ⟨h1, h2⟩ => ⟨h1, h2 ▸ h⟩

set_option maxRecDepth 100000 in
set_option maxHeartbeats 2000000 in
theorem texts_any (a b : ByteArray) (ha : a.size ≤ 140737488355328) (_hb : b.size ≤ 140737488355328) (w : World) :
    Calls Try.prog 123 #[.string a, .string b] w fun e w' => e = .returned (.int .i64 (Lib.compareBytes a.data.toList b.data.toList)) ∧ Below w.heap.size w w' := by
  have hal : a.data.toList.length = a.size := by simp
  have hbl : b.data.toList.length = b.size := by simp
  have HL := Lib.hid (And.intro hal hbl)
  clear hal hbl
  obtain ⟨R, hR⟩ : ∃ R, R = Lib.compareBytes a.data.toList b.data.toList := ⟨_, rfl⟩
  rw [← hR]
  have HR := Lib.hid hR
  clear hR
  go_enter Try.func123, Try.ntmps123
  go_wp2_with fail
  go_loopw [5] (fun i wr => ∃ k : Nat, k ≤ a.size ∧ k ≤ b.size ∧ i = .int .i64 k ∧ Lib.compareBytes (a.data.toList.drop k) (b.data.toList.drop k) = R ∧ Below w.heap.size w wr) (fun i _ => a.size - (intOf i).toNat)
  case atStart => exact ⟨0, Nat.zero_le _, Nat.zero_le _, rfl, by rw [List.drop_zero, List.drop_zero, HR.out], Below.refl _ _⟩
  case round =>
    obtain ⟨k, hka, hkb, rfl, hc, hbw⟩ := hrel
    have HC := Lib.hid hc
    have HB := Lib.hid hbw
    clear hc hbw
    by_cases h1 : k < a.size
    · by_cases h2 : k < b.size
      · have h1' : (k : Int) < (a.size : Int) := by omega
        have h2' : (k : Int) < (b.size : Int) := by omega
        have HD := Lib.hid (Nd.cb_drop a.data.toList b.data.toList k (by rw [HL.out.1]; exact h1) (by rw [HL.out.2]; exact h2))
        by_cases he : a[k] = b[k]
        · have e1 : ((a[k].toNat : Int) == (b[k].toNat : Int)) = true := by rw [he]; simp
          have e2 : ((a[k].toNat : Int) != (b[k].toNat : Int)) = false := by rw [he]; simp
          have HN := Lib.hid (show Lib.compareBytes (a.data.toList.drop (k + 1)) (b.data.toList.drop (k + 1)) = R by
            have h3 := HD.out
            rw [list_get a k h1, list_get b k h2, he, if_neg (by simp), if_neg (by simp), HC.out] at h3
            exact h3.symm)
          clear he
          go_upto_region 4 with (fail)
          go_quiet (fail)
          go_wp2_with fail
          go_roundw
          case rel => exact ⟨k + 1, by omega, by omega, by go_num, HN.out, andThen HB.out (below_drewN _ _)⟩
          case measure => simp [intOf]; omega
        · have hne : a[k].toNat ≠ b[k].toNat := fun e => he (UInt8.toNat_inj.1 e)
          have e1 : ((a[k].toNat : Int) == (b[k].toNat : Int)) = false := by simp; omega
          have e2 : ((a[k].toNat : Int) != (b[k].toNat : Int)) = true := by simp; omega
          have HN := Lib.hid (show Lib.compareInt (a[k].toNat : Int) (b[k].toNat : Int) = R by
            have h3 := HD.out
            rw [list_get a k h1, list_get b k h2, HC.out] at h3
            rw [h3]
            unfold Lib.compareInt
            simp only [UInt8.lt_iff_toNat_lt]
            by_cases h4 : a[k].toNat < b[k].toNat
            · rw [if_pos h4, if_pos (by omega)]
            · rw [if_neg h4, if_neg (by omega), if_pos (by omega), if_pos (by omega)])
          have HI := Lib.hid (fun w0 W hW => ints_keeps (a[k].toNat : Int) (b[k].toNat : Int) w0 W hW)
          clear he hne
          go_upto_region 4 with (fail)
          go_quiet (fail)
          obtain ⟨V, hV⟩ : ∃ V, V = wr.drewN nq := ⟨_, rfl⟩
          have hbV : Below w.heap.size w V := by rw [hV]; exact andThen HB.out (below_drewN _ _)
          rw [← hV]
          clear hV
          go_upto_region 5 with (fail)
          have e3 : IntKind.i64.wrap (a[k].toNat : Int) = (a[k].toNat : Int) := IntWalk.i64_in _ (by have := a[k].toNat_lt; omega)
          have e4 : IntKind.i64.wrap (b[k].toNat : Int) = (b[k].toNat : Int) := IntWalk.i64_in _ (by have := b[k].toNat_lt; omega)
          go_region_held3 (fun we => Below V.heap.size V we) (first | assumption | exact (Below.refl _ _).drew) (first | (go_at_call 122; ((with_reducible refine (HI.out _ _ (by assumption)).mono ?_); rintro e w3 ⟨rfl, hS⟩)))
          all_goals
            go_wp2_with fail
            go_ret
            exact ⟨ret_int HN.out, andThen hbV hS⟩
      · obtain rfl : k = b.size := by omega
        have h1' : (b.size : Int) < (a.size : Int) := by omega
        have HN := Lib.hid (show Lib.compareInt (a.size : Int) (b.size : Int) = R by
          have h3 := Nd.cb_past a.data.toList b.data.toList b.size (by rw [HL.out.1]; omega) (by rw [HL.out.2]; exact Nat.le_refl _) (.inr HL.out.2.symm)
          rw [HC.out, HL.out.1, HL.out.2] at h3
          exact h3.symm)
        have HI := Lib.hid (fun W => ints_any (a.size : Int) (b.size : Int) W)
        go_wp2_with (go_at_call 122; refine (HI.out _).mono ?_; rintro e w3 ⟨rfl, rfl⟩)
        go_ret
        exact ⟨ret_int HN.out, HB.out⟩
    · obtain rfl : k = a.size := by omega
      have HN := Lib.hid (show Lib.compareInt (a.size : Int) (b.size : Int) = R by
        have h3 := Nd.cb_past a.data.toList b.data.toList a.size (by rw [HL.out.1]; exact Nat.le_refl _) (by rw [HL.out.2]; omega) (.inl HL.out.1.symm)
        rw [HC.out, HL.out.1, HL.out.2] at h3
        exact h3.symm)
      have HI := Lib.hid (fun W => ints_any (a.size : Int) (b.size : Int) W)
      go_wp2_with (go_at_call 122; refine (HI.out _).mono ?_; rintro e w3 ⟨rfl, rfl⟩)
      go_ret
      exact ⟨ret_int HN.out, HB.out⟩
end Go.Proofs.Ytgbihdlahghonaa
/- The walks over the reference: a text as a value, the order of two; Less. -/
namespace Go.Proofs.Ytgbihdlahghonaa
open Go.RowKit

/-- A text, as a value of the reference. -/
abbrev valV (s : ByteArray) : Value := .agg #[.int .i64 3, .int .i64 0, .string s]
set_option maxRecDepth 100000 in
theorem str_any (s : ByteArray) (w : World) :
    Calls Try.prog 104 #[.string s] w fun e w' => e = .returned (valV s) ∧ Below w.heap.size w w' := by
  go_enter Try.func104, Try.ntmps104
  go_wp2_with fail
  refine bodyPost_ret (v := valV s) (by simp [results, Try.results104, go_sem]) rfl ?_
  refine ⟨rfl, ?_⟩
  repeat (first | exact Below.refl _ _ | refine Below.alloc ?_ (by simp) _ | refine Below.setCell ?_ (by simp) _)
set_option maxRecDepth 100000 in
set_option maxHeartbeats 1000000 in
theorem order3_any (s t : ByteArray) (hs : s.size ≤ 140737488355328) (ht : t.size ≤ 140737488355328) (w : World) :
    Calls Try.prog 103 #[valV s, valV t] w fun e w' => e = .returned (.int .i64 (Lib.compareBytes s.data.toList t.data.toList)) ∧ Below w.heap.size w w' := by
  have HT := Lib.hid (fun W => texts_any s t hs ht W)
  generalize Lib.compareBytes s.data.toList t.data.toList = n at HT ⊢
  clear hs ht
  go_enter Try.func103, Try.ntmps103
  go_wp2_with (go_at_call 123; refine (HT.out _).mono ?_; rintro e w1 ⟨rfl, hb1⟩)
  go_ret
  exact ⟨rfl, below_past (below_past hb1)⟩
theorem str_keeps (s : ByteArray) (X : Nat) (a b : Nd.Entry) (w0 u : World) (h : Held2 X a b w0 u) :
    Calls Try.prog 104 #[.string s] u fun e w' => e = .returned (valV s) ∧ Held2 X a b w0 w' :=
  (str_any s u).mono fun _ _ ⟨h1, h2⟩ => ⟨h1, h.step h2⟩
theorem order3_keeps (s t : ByteArray) (hs : s.size ≤ 140737488355328) (ht : t.size ≤ 140737488355328) (X : Nat) (a b : Nd.Entry) (w0 u : World) (h : Held2 X a b w0 u) :
    Calls Try.prog 103 #[valV s, valV t] u fun e w' => e = .returned (.int .i64 (Lib.compareBytes s.data.toList t.data.toList)) ∧ Held2 X a b w0 w' :=
  (order3_any s t hs ht u).mono fun _ _ ⟨h1, h2⟩ => ⟨h1, h.step h2⟩

set_option maxRecDepth 100000 in
set_option maxHeartbeats 4000000 in
theorem rless_any (a b : Nd.Entry) (ha : a.key.size ≤ 140737488355328) (hb : b.key.size ≤ 140737488355328) (w : World) :
    Calls Try.prog 70 #[entV a, entV b] w fun x w' => x = .returned (.bool (Nd.lessE a b)) ∧ Below w.heap.size w w' := by
  have HH := Lib.hid (held2_of w a b 45)
  have HO := Lib.hid (fun w0 W hW => order3_keeps a.key b.key ha hb w.heap.size a b w0 W hW)
  have HS1 := Lib.hid (fun w0 W hW => str_keeps a.key w.heap.size a b w0 W hW)
  have HS2 := Lib.hid (fun w0 W hW => str_keeps b.key w.heap.size a b w0 W hW)
  have hR : Nd.lessE a b = decide ((if Lib.compareBytes a.key.data.toList b.key.data.toList ≠ 0 then Lib.compareBytes a.key.data.toList b.key.data.toList else if Lib.compareInt a.page b.page ≠ 0 then Lib.compareInt a.page b.page else Lib.compareInt a.slot b.slot) < 0) := rfl
  rw [hR]
  generalize Lib.compareBytes a.key.data.toList b.key.data.toList = x at HO ⊢
  clear hR ha hb
  obtain ⟨ak, ap, as_⟩ := a
  obtain ⟨bk, bp, bs⟩ := b
  simp only at HO HS1 HS2 HH ⊢
  obtain ⟨R, hR⟩ : ∃ R, R = decide ((if x ≠ 0 then x else if Lib.compareInt ap bp ≠ 0 then Lib.compareInt ap bp else Lib.compareInt as_ bs) < 0) := ⟨_, rfl⟩
  rw [← hR]
  have HR := Lib.hid hR
  clear hR
  go_enter Try.func70, Try.ntmps70
  go_upto_region 1 with (fail)
  obtain ⟨V, hV⟩ : ∃ V, V = (w.alloc (.cells #[.string ak, .int .i64 ap, .int .i64 as_] 45)).alloc (.cells #[.string bk, .int .i64 bp, .int .i64 bs] 45) := ⟨_, rfl⟩
  have hwV : Below w.heap.size w V := by rw [hV]; exact ((Below.refl _ _).alloc (Nat.le_refl _) _).alloc (by simp) _
  rw [← hV] at HH ⊢
  clear hV
  go_cut [5] (fun s we => s = .int .i64 x ∧ Held2 w.heap.size ⟨ak, ap, as_⟩ ⟨bk, bp, bs⟩ V we)
  case first =>
    go_region_held3 (fun we => Held2 w.heap.size ⟨ak, ap, as_⟩ ⟨bk, bp, bs⟩ V we) (first | assumption | exact HH.out.step ((Below.refl _ _).drew)) (first
      | (go_at_call 104; ((with_reducible refine (HS1.out _ _ (by assumption)).mono ?_); rintro e w2 ⟨rfl, hS⟩))
      | (go_at_call 104; ((with_reducible refine (HS2.out _ _ (by assumption)).mono ?_); rintro e w2 ⟨rfl, hS⟩))
      | (go_at_call 103; ((with_reducible refine (HO.out _ _ (by assumption)).mono ?_); rintro e w2 ⟨rfl, hS⟩)))
    all_goals
      go_wp2_with fail
      go_meet
      case rel => exact ⟨rfl, hS⟩
  case rest =>
    obtain ⟨rfl, hS⟩ := hcut
    obtain ⟨c0, c1, c2, d0, d1, d2, -, hbS⟩ := hS
    have hbw := hwV.trans (hbS.mono hwV.size)
    clear HS1 HS2 HO HH
    by_cases hx : x = 0
    · have HX := Lib.hid hx
      have e1 : (x == 0) = true := by simp [hx]
      have e2 : (x != 0) = false := by simp [hx]
      clear hx
      by_cases hp : ap = bp
      · have f1 : (ap == bp) = true := by simp [hp]
        have f2 : (ap != bp) = false := by simp [hp]
        have HV := Lib.hid (show decide (as_ < bs) = R by
          rw [HR.out, HX.out, if_neg (by simp), if_neg (by rw [(Nd.ci_eq ap bp).2 hp]; simp)]
          exact decide_eq_decide.2 (Nd.ci_lt as_ bs).symm)
        clear hp
        go_wp2_with fail
        go_ret
        exact ⟨congrArg (fun z => Ending.returned (Value.bool z)) HV.out, hbw⟩
      · have f1 : (ap == bp) = false := by simp [hp]
        have f2 : (ap != bp) = true := by simp [hp]
        have HV := Lib.hid (show decide (ap < bp) = R by
          rw [HR.out, HX.out, if_neg (by simp), if_pos (fun e => hp ((Nd.ci_eq ap bp).1 e))]
          exact decide_eq_decide.2 (Nd.ci_lt ap bp).symm)
        clear hp
        go_wp2_with fail
        go_ret
        exact ⟨congrArg (fun z => Ending.returned (Value.bool z)) HV.out, hbw⟩
    · have e1 : (x == 0) = false := by simp [hx]
      have e2 : (x != 0) = true := by simp [hx]
      have HV := Lib.hid (show decide (x < 0) = R by rw [HR.out, if_pos hx])
      clear hx
      go_wp2_with fail
      go_ret
      exact ⟨congrArg (fun z => Ending.returned (Value.bool z)) HV.out, hbw⟩
end Go.Proofs.Ytgbihdlahghonaa
/- The walks over package node and its reference: an entry's bytes. -/
namespace Go.Proofs.Ytgbihdlahghonaa
open Go.RowKit

/-- A box with an entry, while nothing but new blocks is made. -/
abbrev HeldE (X : Nat) (a : Nd.Entry) (w0 u : World) : Prop :=
  u.cell? ⟨X, 0, none⟩ = some (.string a.key) ∧ u.cell? ⟨X, 1, none⟩ = some (.int .i64 a.page) ∧ u.cell? ⟨X, 2, none⟩ = some (.int .i64 a.slot) ∧ X < u.heap.size ∧ Below w0.heap.size w0 u
theorem HeldE.step {X : Nat} {a : Nd.Entry} {w0 u v : World} (h : HeldE X a w0 u) (hb : Below u.heap.size u v) : HeldE X a w0 v := by
  obtain ⟨h0, h1, h2, h6, h7⟩ := h
  have := hb.size
  refine ⟨?_, ?_, ?_, by omega, andThen h7 hb⟩
  · rw [hb.cell (p := ⟨X, 0, none⟩) h6]; exact h0
  · rw [hb.cell (p := ⟨X, 1, none⟩) h6]; exact h1
  · rw [hb.cell (p := ⟨X, 2, none⟩) h6]; exact h2
theorem heldE_of (w : World) (a : Nd.Entry) (T : TypeId) : HeldE w.heap.size a w (w.alloc (.cells #[.string a.key, .int .i64 a.page, .int .i64 a.slot] T)) := by
  have h1 := heap_alloc_new w (.cells #[.string a.key, .int .i64 a.page, .int .i64 a.slot] T)
  refine ⟨?_, ?_, ?_, by simp, (Below.refl _ _).alloc (Nat.le_refl _) _⟩
  · rw [cell_of_blk h1]; rfl
  · rw [cell_of_blk h1]; rfl
  · rw [cell_of_blk h1]; rfl
theorem mayE_yes {e : Nd.Entry} (h : Nd.mayE e = true) : e.key.size ≤ 100 ∧ 0 ≤ e.page ∧ e.page < 16777216 ∧ 0 ≤ e.slot ∧ e.slot < 65536 := by
  unfold Nd.mayE at h; exact of_decide_eq_true h
set_option maxRecDepth 100000 in
set_option maxHeartbeats 4000000 in
theorem putentry_any (e : Nd.Entry) (w : World) :
    Calls Try.prog 71 #[entV e] w fun x w' => x = .returned (.string (Nd.putE e)) ∧ Below w.heap.size w w' := by
  have HM := Lib.hid (fun W => nmay_any e W)
  unfold Nd.putE
  cases hm : Nd.mayE e with
  | false =>
    rw [hm] at HM
    rw [if_neg (by simp)]
    clear hm
    obtain ⟨K, pg, sl⟩ := e
    go_enter Try.func71, Try.ntmps71
    go_wp2_with (go_at_call 105; refine (HM.out _).mono ?_; rintro x w1 ⟨rfl, hb1⟩)
    go_ret
    exact ⟨rfl, below_past hb1⟩
  | true =>
    rw [hm] at HM
    rw [if_pos rfl]
    obtain ⟨hk, -, -, -, -⟩ := mayE_yes hm
    have HE := Lib.hid (heldE_of w e 45)
    have HP1 := Lib.hid (fun W => put_any e.page 3 (by omega) (by omega) W)
    have HP2 := Lib.hid (fun W => put_any e.slot 2 (by omega) (by omega) W)
    have hz1 : (Oct.putB e.page 3).size = 3 := Oct.putB_size _ 3 (by omega)
    have hz2 : (Oct.putB e.slot 2).size = 2 := Oct.putB_size _ 2 (by omega)
    generalize Oct.putB e.page 3 = q1 at HP1 hz1 ⊢
    generalize Oct.putB e.slot 2 = q2 at HP2 hz2 ⊢
    clear hm
    obtain ⟨K, pg, sl⟩ := e
    simp only at HP1 HP2 HE hk ⊢
    have hadd1 : ∀ W : World, (Op.stringOp .add q1 q2).run Try.prog W = .ok (.string (q1 ++ q2)) W := fun W => run_string_add_sum W _ _ (by omega)
    have hadd2 : ∀ W : World, (Op.stringOp .add (q1 ++ q2) K).run Try.prog W = .ok (.string (q1 ++ q2 ++ K)) W := fun W => run_string_add_sum W _ _ (by rw [ByteArray.size_append]; omega)
    go_enter Try.func71, Try.ntmps71
    go_upto_region 3 with (go_at_call 105; refine (HM.out _).mono ?_; rintro x w1 ⟨rfl, hb1⟩)
    have hS0 : HeldE w.heap.size ⟨K, pg, sl⟩ w w1 := HE.out.step hb1
    have HS0 := Lib.hid hS0
    clear hS0
    clear hb1
    go_region_held3 (fun we => HeldE w.heap.size ⟨K, pg, sl⟩ w we) (first | assumption | exact HS0.out.step ((Below.refl _ _).drew)) (first
      | (go_at_call 106; ((with_reducible refine (HP1.out _).mono ?_); rintro x w2 ⟨rfl, hb2⟩; have hS := HeldE.step (by assumption) hb2; clear hb2))
      | (go_at_call 106; ((with_reducible refine (HP2.out _).mono ?_); rintro x w2 ⟨rfl, hb2⟩; have hS := HeldE.step (by assumption) hb2; clear hb2)))
    all_goals
      go_wp2_with fail
      go_ret
      exact ⟨rfl, hS.2.2.2.2⟩
set_option maxRecDepth 100000 in
set_option maxHeartbeats 4000000 in
theorem rputentry_any (e : Nd.Entry) (w : World) :
    Calls Try.prog 72 #[entV e] w fun x w' => x = .returned (.string (Nd.putE e)) ∧ Below w.heap.size w w' := by
  have HM := Lib.hid (fun W => rnmay_any e W)
  unfold Nd.putE
  cases hm : Nd.mayE e with
  | false =>
    rw [hm] at HM
    rw [if_neg (by simp)]
    clear hm
    obtain ⟨K, pg, sl⟩ := e
    go_enter Try.func72, Try.ntmps72
    go_wp2_with (go_at_call 107; refine (HM.out _).mono ?_; rintro x w1 ⟨rfl, hb1⟩)
    go_ret
    exact ⟨rfl, below_past hb1⟩
  | true =>
    rw [hm] at HM
    rw [if_pos rfl]
    obtain ⟨hk, -, -, -, -⟩ := mayE_yes hm
    have HE := Lib.hid (heldE_of w e 45)
    have HP1 := Lib.hid (fun W => rput_any e.page 3 (by omega) (by omega) W)
    have HP2 := Lib.hid (fun W => rput_any e.slot 2 (by omega) (by omega) W)
    have hz1 : (Oct.putB e.page 3).size = 3 := Oct.putB_size _ 3 (by omega)
    have hz2 : (Oct.putB e.slot 2).size = 2 := Oct.putB_size _ 2 (by omega)
    generalize Oct.putB e.page 3 = q1 at HP1 hz1 ⊢
    generalize Oct.putB e.slot 2 = q2 at HP2 hz2 ⊢
    clear hm
    obtain ⟨K, pg, sl⟩ := e
    simp only at HP1 HP2 HE hk ⊢
    have hadd1 : ∀ W : World, (Op.stringOp .add q1 q2).run Try.prog W = .ok (.string (q1 ++ q2)) W := fun W => run_string_add_sum W _ _ (by omega)
    have hadd2 : ∀ W : World, (Op.stringOp .add (q1 ++ q2) K).run Try.prog W = .ok (.string (q1 ++ q2 ++ K)) W := fun W => run_string_add_sum W _ _ (by rw [ByteArray.size_append]; omega)
    go_enter Try.func72, Try.ntmps72
    go_upto_region 3 with (go_at_call 107; refine (HM.out _).mono ?_; rintro x w1 ⟨rfl, hb1⟩)
    have hS0 : HeldE w.heap.size ⟨K, pg, sl⟩ w w1 := HE.out.step hb1
    have HS0 := Lib.hid hS0
    clear hS0
    clear hb1
    go_region_held3 (fun we => HeldE w.heap.size ⟨K, pg, sl⟩ w we) (first | assumption | exact HS0.out.step ((Below.refl _ _).drew)) (first
      | (go_at_call 82; ((with_reducible refine (HP1.out _).mono ?_); rintro x w2 ⟨rfl, hb2⟩; have hS := HeldE.step (by assumption) hb2; clear hb2))
      | (go_at_call 82; ((with_reducible refine (HP2.out _).mono ?_); rintro x w2 ⟨rfl, hb2⟩; have hS := HeldE.step (by assumption) hb2; clear hb2)))
    all_goals
      go_wp2_with fail
      go_ret
      exact ⟨rfl, hS.2.2.2.2⟩
end Go.Proofs.Ytgbihdlahghonaa
/- The walks over package node and its reference: children's bytes; entries out of bytes. -/
namespace Go.Proofs.Ytgbihdlahghonaa
open Go.RowKit

theorem blkE {w : World} {b : Nat} {a c d : Value} {T : TypeId} (h : w.heap[b]? = some (.cells #[a, c, d] T (0, 0))) : w.cell? ⟨b, 0, none⟩ = some a ∧ w.cell? ⟨b, 1, none⟩ = some c ∧ w.cell? ⟨b, 2, none⟩ = some d ∧ w.frozen? ⟨b, 0, none⟩ = false ∧ w.frozen? ⟨b, 1, none⟩ = false ∧ w.frozen? ⟨b, 2, none⟩ = false := by
  refine ⟨by rw [cell_of_blk h]; rfl, by rw [cell_of_blk h]; rfl, by rw [cell_of_blk h]; rfl, ?_, ?_, ?_⟩ <;> simp [World.frozen?, h]
theorem putE_size {e : Nd.Entry} (h : Nd.mayE e = true) : (Nd.putE e).size = 5 + e.key.size := by
  unfold Nd.putE
  rw [if_pos h, ByteArray.size_append, ByteArray.size_append, show (Oct.putB e.page 3).size = 3 from Oct.putB_size _ 3 (by omega), show (Oct.putB e.slot 2).size = 2 from Oct.putB_size _ 2 (by omega)]
set_option maxRecDepth 100000 in
set_option maxHeartbeats 4000000 in
theorem putchild_any (e : Nd.Entry) (n : Int) (w : World) :
    Calls Try.prog 73 #[entV e, .int .i64 n] w fun x w' => x = .returned (.string (Nd.putC e n)) ∧ Below w.heap.size w w' := by
  have HM := Lib.hid (fun W => nmay_any e W)
  unfold Nd.putC
  cases hm : Nd.mayE e with
  | false =>
    rw [hm] at HM
    rw [if_neg (by simp)]
    clear hm
    obtain ⟨K, pg, sl⟩ := e
    go_enter Try.func73, Try.ntmps73
    go_wp2_with (go_at_call 105; refine (HM.out _).mono ?_; rintro x w1 ⟨rfl, hb1⟩)
    go_ret
    exact ⟨rfl, below_past hb1⟩
  | true =>
    rw [hm] at HM
    by_cases h1 : n < 0
    · rw [if_neg (by omega)]
      clear hm
      obtain ⟨K, pg, sl⟩ := e
      go_enter Try.func73, Try.ntmps73
      go_wp2_with (go_at_call 105; refine (HM.out _).mono ?_; rintro x w1 ⟨rfl, hb1⟩)
      go_ret
      exact ⟨rfl, below_past hb1⟩
    · by_cases h2 : 16777216 ≤ n
      · rw [if_neg (by omega)]
        clear hm
        obtain ⟨K, pg, sl⟩ := e
        go_enter Try.func73, Try.ntmps73
        go_wp2_with (go_at_call 105; refine (HM.out _).mono ?_; rintro x w1 ⟨rfl, hb1⟩)
        go_ret
        exact ⟨rfl, below_past hb1⟩
      · rw [if_pos ⟨rfl, by omega, by omega⟩]
        have hsz := putE_size hm
        obtain ⟨hk, -, -, -, -⟩ := mayE_yes hm
        have HE := Lib.hid (heldE_of w e 45)
        have HP1 := Lib.hid (fun W => put_any n 3 (by omega) (by omega) W)
        have HP2 := Lib.hid (fun W => putentry_any e W)
        have hz1 : (Oct.putB n 3).size = 3 := Oct.putB_size _ 3 (by omega)
        have hz2 : (Nd.putE e).size ≤ 105 := by omega
        generalize Oct.putB n 3 = q1 at HP1 hz1 ⊢
        generalize Nd.putE e = q2 at HP2 hz2 ⊢
        clear hm hsz hk
        obtain ⟨K, pg, sl⟩ := e
        have hadd1 : ∀ W : World, (Op.stringOp .add q1 q2).run Try.prog W = .ok (.string (q1 ++ q2)) W := fun W => run_string_add_sum W _ _ (by omega)
        have hn0 : 0 ≤ n := by omega
        have hn1 : n < 16777216 := by omega
        clear h1 h2
        go_enter Try.func73, Try.ntmps73
        go_upto_region 3 with (go_at_call 105; refine (HM.out _).mono ?_; rintro x w1 ⟨rfl, hb1⟩)
        have hS0 : HeldE w.heap.size ⟨K, pg, sl⟩ w w1 := HE.out.step hb1
        have HS0 := Lib.hid hS0
        clear hS0 hb1
        go_region_held3 (fun we => HeldE w.heap.size ⟨K, pg, sl⟩ w we) (first | assumption | exact HS0.out.step ((Below.refl _ _).drew)) (first
          | (go_at_call 106; ((with_reducible refine (HP1.out _).mono ?_); rintro x w2 ⟨rfl, hb2⟩; have hS := HeldE.step (by assumption) hb2; clear hb2))
          | (go_at_call 71; ((with_reducible refine (HP2.out _).mono ?_); rintro x w2 ⟨rfl, hb2⟩; have hS := HeldE.step (by assumption) hb2; clear hb2)))
        all_goals
          go_wp2_with fail
          go_ret
          exact ⟨rfl, hS.2.2.2.2⟩
set_option maxRecDepth 100000 in
set_option maxHeartbeats 4000000 in
theorem rputchild_any (e : Nd.Entry) (n : Int) (w : World) :
    Calls Try.prog 74 #[entV e, .int .i64 n] w fun x w' => x = .returned (.string (Nd.putC e n)) ∧ Below w.heap.size w w' := by
  have HM := Lib.hid (fun W => rnmay_any e W)
  unfold Nd.putC
  cases hm : Nd.mayE e with
  | false =>
    rw [hm] at HM
    rw [if_neg (by simp)]
    clear hm
    obtain ⟨K, pg, sl⟩ := e
    go_enter Try.func74, Try.ntmps74
    go_wp2_with (go_at_call 107; refine (HM.out _).mono ?_; rintro x w1 ⟨rfl, hb1⟩)
    go_ret
    exact ⟨rfl, below_past hb1⟩
  | true =>
    rw [hm] at HM
    by_cases h1 : n < 0
    · rw [if_neg (by omega)]
      clear hm
      obtain ⟨K, pg, sl⟩ := e
      go_enter Try.func74, Try.ntmps74
      go_wp2_with (go_at_call 107; refine (HM.out _).mono ?_; rintro x w1 ⟨rfl, hb1⟩)
      go_ret
      exact ⟨rfl, below_past hb1⟩
    · by_cases h2 : 16777216 ≤ n
      · rw [if_neg (by omega)]
        clear hm
        obtain ⟨K, pg, sl⟩ := e
        go_enter Try.func74, Try.ntmps74
        go_wp2_with (go_at_call 107; refine (HM.out _).mono ?_; rintro x w1 ⟨rfl, hb1⟩)
        go_ret
        exact ⟨rfl, below_past hb1⟩
      · rw [if_pos ⟨rfl, by omega, by omega⟩]
        have hsz := putE_size hm
        obtain ⟨hk, -, -, -, -⟩ := mayE_yes hm
        have HE := Lib.hid (heldE_of w e 45)
        have HP1 := Lib.hid (fun W => rput_any n 3 (by omega) (by omega) W)
        have HP2 := Lib.hid (fun W => rputentry_any e W)
        have hz1 : (Oct.putB n 3).size = 3 := Oct.putB_size _ 3 (by omega)
        have hz2 : (Nd.putE e).size ≤ 105 := by omega
        generalize Oct.putB n 3 = q1 at HP1 hz1 ⊢
        generalize Nd.putE e = q2 at HP2 hz2 ⊢
        clear hm hsz hk
        obtain ⟨K, pg, sl⟩ := e
        have hadd1 : ∀ W : World, (Op.stringOp .add q1 q2).run Try.prog W = .ok (.string (q1 ++ q2)) W := fun W => run_string_add_sum W _ _ (by omega)
        have hn0 : 0 ≤ n := by omega
        have hn1 : n < 16777216 := by omega
        clear h1 h2
        go_enter Try.func74, Try.ntmps74
        go_upto_region 3 with (go_at_call 107; refine (HM.out _).mono ?_; rintro x w1 ⟨rfl, hb1⟩)
        have hS0 : HeldE w.heap.size ⟨K, pg, sl⟩ w w1 := HE.out.step hb1
        have HS0 := Lib.hid hS0
        clear hS0 hb1
        go_region_held3 (fun we => HeldE w.heap.size ⟨K, pg, sl⟩ w we) (first | assumption | exact HS0.out.step ((Below.refl _ _).drew)) (first
          | (go_at_call 82; ((with_reducible refine (HP1.out _).mono ?_); rintro x w2 ⟨rfl, hb2⟩; have hS := HeldE.step (by assumption) hb2; clear hb2))
          | (go_at_call 72; ((with_reducible refine (HP2.out _).mono ?_); rintro x w2 ⟨rfl, hb2⟩; have hS := HeldE.step (by assumption) hb2; clear hb2)))
        all_goals
          go_wp2_with fail
          go_ret
          exact ⟨rfl, hS.2.2.2.2⟩

theorem getN_int (s : ByteArray) (a k : Nat) (hk : k ≤ 7) : Oct.intOf (Oct.getN s.data.toList a k) = (Oct.getN s.data.toList a k : Nat) := by
  have h := Pg.getN_pow s.data.toList a k
  have h2 : 256 ^ k ≤ 256 ^ 7 := Nat.pow_le_pow_right (by omega) hk
  unfold Oct.intOf
  rw [if_pos (by omega)]
theorem get_03 (s : ByteArray) (h : 3 ≤ s.size) (hs : s.size ≤ 140737488355328) (W : World) : Calls Try.prog 101 #[.string s, .int .i64 0, .int .i64 3] W fun e w' => e = .returned (.tuple #[.int .i64 ((Oct.getN s.data.toList 0 3 : Nat) : Int), .bool true]) ∧ Below W.heap.size W w' := by
  have := get_yes s 0 3 (by omega) (by omega) (by omega) (by omega) W
  rw [getN_int s 0 3 (by omega)] at this
  exact this
theorem get_32 (s : ByteArray) (h : 5 ≤ s.size) (hs : s.size ≤ 140737488355328) (W : World) : Calls Try.prog 101 #[.string s, .int .i64 3, .int .i64 2] W fun e w' => e = .returned (.tuple #[.int .i64 ((Oct.getN s.data.toList 3 2 : Nat) : Int), .bool true]) ∧ Below W.heap.size W w' := by
  have := get_yes s 3 2 (by omega) (by omega) (by omega) (by omega) W
  rw [getN_int s 3 2 (by omega)] at this
  exact this
theorem rget_03 (s : ByteArray) (h : 3 ≤ s.size) (hs : s.size ≤ 140737488355328) (W : World) : Calls Try.prog 102 #[.string s, .int .i64 0, .int .i64 3] W fun e w' => e = .returned (.tuple #[.int .i64 ((Oct.getN s.data.toList 0 3 : Nat) : Int), .bool true]) ∧ W = w' := by
  have := rget_yes s 0 3 (by omega) (by omega) (by omega) (by omega) W
  rw [getN_int s 0 3 (by omega)] at this
  exact this
theorem rget_32 (s : ByteArray) (h : 5 ≤ s.size) (hs : s.size ≤ 140737488355328) (W : World) : Calls Try.prog 102 #[.string s, .int .i64 3, .int .i64 2] W fun e w' => e = .returned (.tuple #[.int .i64 ((Oct.getN s.data.toList 3 2 : Nat) : Int), .bool true]) ∧ W = w' := by
  have := rget_yes s 3 2 (by omega) (by omega) (by omega) (by omega) W
  rw [getN_int s 3 2 (by omega)] at this
  exact this
theorem get_no03 (s : ByteArray) (h : s.size < 3) (W : World) : Calls Try.prog 101 #[.string s, .int .i64 0, .int .i64 3] W fun e w' => e = .returned (.tuple #[.int .i64 0, .bool false]) ∧ W = w' :=
  get_no s 0 3 (by omega) (by omega) (by omega) (by unfold Oct.there; simp; omega) W
theorem get_no32 (s : ByteArray) (h : s.size < 5) (W : World) : Calls Try.prog 101 #[.string s, .int .i64 3, .int .i64 2] W fun e w' => e = .returned (.tuple #[.int .i64 0, .bool false]) ∧ W = w' :=
  get_no s 3 2 (by omega) (by omega) (by omega) (by unfold Oct.there; simp; omega) W
/-- What GetEntry returns. -/
def getEV (o : Option Nd.Entry) : Value := match o with | some e => .tuple #[entV e, .bool true] | none => .tuple #[.agg #[.string ⟨#[]⟩, .int .i64 0, .int .i64 0], .bool false]
theorem getE_none {s : ByteArray} (h : s.size < 5 ∨ 105 < s.size) : Nd.getE s = none := if_pos h
theorem getE_some {s : ByteArray} (h1 : 5 ≤ s.size) (h2 : s.size ≤ 105) : Nd.getE s = some ⟨s.extract 5 s.size, (Oct.getN s.data.toList 0 3 : Nat), (Oct.getN s.data.toList 3 2 : Nat)⟩ := if_neg (by omega)
theorem getE_ok {s : ByteArray} {e : Nd.Entry} (h : Nd.getE s = some e) : 5 ≤ s.size ∧ s.size ≤ 105 := by
  unfold Nd.getE at h
  split at h
  · cases h
  · omega
set_option maxRecDepth 100000 in
set_option maxHeartbeats 4000000 in
theorem getentry_any (s : ByteArray) (hs : s.size ≤ 140737488355328) (w : World) :
    Calls Try.prog 66 #[.string s] w fun x w' => x = .returned (getEV (Nd.getE s)) ∧ Below w.heap.size w w' := by
  by_cases h5 : s.size < 5
  · rw [getE_none (.inl h5)]
    have H2 := Lib.hid (fun W => get_no32 s h5 W)
    by_cases h3 : s.size < 3
    · have H1 := Lib.hid (fun W => get_no03 s h3 W)
      clear h5 h3
      go_enter Try.func66, Try.ntmps66
      go_wp2_with (first | (go_at_call 101; ((with_reducible refine (H1.out _).mono ?_); rintro x w1 ⟨rfl, rfl⟩)) | (go_at_call 101; ((with_reducible refine (H2.out _).mono ?_); rintro x w1 ⟨rfl, rfl⟩)))
      refine bodyPost_ret (v := .tuple #[.agg #[.string ⟨#[]⟩, .int .i64 0, .int .i64 0], .bool false]) (by simp [results, Try.results66, go_sem]) rfl ?_
      exact ⟨rfl, by repeat (first | exact Below.refl _ _ | refine Below.alloc ?_ (by simp) _ | refine Below.setCell ?_ (by simp) _)⟩
    · have H1 := Lib.hid (fun W => get_03 s (by omega) hs W)
      generalize ((Oct.getN s.data.toList 0 3 : Nat) : Int) = n at H1
      clear h5 h3
      go_enter Try.func66, Try.ntmps66
      go_wp2_with (first | (go_at_call 101; ((with_reducible refine (H1.out _).mono ?_); rintro x w1 ⟨rfl, hb1⟩; obtain ⟨c0, c1, c2, f0, f1, f2⟩ := blkE (blk_new hb1))) | (go_at_call 101; ((with_reducible refine (H2.out _).mono ?_); rintro x w2 ⟨rfl, rfl⟩)))
      refine bodyPost_ret (v := .tuple #[.agg #[.string ⟨#[]⟩, .int .i64 0, .int .i64 0], .bool false]) (by simp [results, Try.results66, go_sem, c0, c1, c2]) rfl ?_
      have hbw := below_past hb1
      exact ⟨rfl, by repeat (first | exact hbw | refine Below.setCell ?_ (by simp) _)⟩
  · have H1 := Lib.hid (fun W => get_03 s (by omega) hs W)
    have H2 := Lib.hid (fun W => get_32 s (by omega) hs W)
    by_cases h6 : 105 < s.size
    · rw [getE_none (.inr h6)]
      generalize ((Oct.getN s.data.toList 0 3 : Nat) : Int) = n at H1
      generalize ((Oct.getN s.data.toList 3 2 : Nat) : Int) = m at H2
      have h7 : (105 : Int) < (s.size : Int) := by omega
      clear h5 h6
      go_enter Try.func66, Try.ntmps66
      go_wp2_with (first | (go_at_call 101; ((with_reducible refine (H1.out _).mono ?_); rintro x w1 ⟨rfl, hb1⟩)) | (go_at_call 101; ((with_reducible refine (H2.out _).mono ?_); rintro x w2 ⟨rfl, hb2⟩; obtain ⟨c0, c1, c2, f0, f1, f2⟩ := blkE (blk_old (blk_new hb1) hb2))))
      refine bodyPost_ret (v := .tuple #[.agg #[.string ⟨#[]⟩, .int .i64 0, .int .i64 0], .bool false]) (by simp [results, Try.results66, go_sem, c0, c1, c2]) rfl ?_
      have hbw := andThen (below_past hb1) hb2
      exact ⟨rfl, by repeat (first | exact hbw | refine Below.setCell ?_ (by simp) _)⟩
    · rw [getE_some (by omega) (by omega)]
      generalize ((Oct.getN s.data.toList 0 3 : Nat) : Int) = n at H1 ⊢
      generalize ((Oct.getN s.data.toList 3 2 : Nat) : Int) = m at H2 ⊢
      have h7 : (s.size : Int) ≤ 105 := by omega
      have h8 : 5 ≤ s.size := by omega
      clear h5 h6
      go_enter Try.func66, Try.ntmps66
      go_wp2_with (first | (go_at_call 101; ((with_reducible refine (H1.out _).mono ?_); rintro x w1 ⟨rfl, hb1⟩)) | (go_at_call 101; ((with_reducible refine (H2.out _).mono ?_); rintro x w2 ⟨rfl, hb2⟩; obtain ⟨c0, c1, c2, f0, f1, f2⟩ := blkE (blk_old (blk_new hb1) hb2))))
      refine bodyPost_ret (v := .tuple #[entV ⟨s.extract 5 s.size, n, m⟩, .bool true]) (by simp [results, Try.results66, go_sem, c0, c1, c2]) rfl ?_
      have hbw := andThen (below_past hb1) hb2
      exact ⟨rfl, by repeat (first | exact hbw | refine Below.setCell ?_ (by simp) _)⟩
end Go.Proofs.Ytgbihdlahghonaa
/- The walks over package node and its reference: children out of bytes. -/
namespace Go.Proofs.Ytgbihdlahghonaa
open Go.RowKit

/-- What GetChild returns. -/
def getCV (o : Option (Nd.Entry × Int)) : Value := match o with | some (e, n) => .tuple #[entV e, .int .i64 n, .bool true] | none => .tuple #[.agg #[.string ⟨#[]⟩, .int .i64 0, .int .i64 0], .int .i64 0, .bool false]
theorem getC_short {s : ByteArray} (h : s.size < 3) : Nd.getC s = none := if_pos h
theorem getC_none {s : ByteArray} (h : Nd.getE (s.extract 3 s.size) = none) : Nd.getC s = none := by
  unfold Nd.getC
  split
  · rfl
  · rw [h]; rfl
theorem getC_some {s : ByteArray} {e : Nd.Entry} (h3 : 3 ≤ s.size) (h : Nd.getE (s.extract 3 s.size) = some e) : Nd.getC s = some (e, ((Oct.getN s.data.toList 0 3 : Nat) : Int)) := by
  unfold Nd.getC
  rw [if_neg (by omega), h]; rfl
set_option maxRecDepth 100000 in
set_option maxHeartbeats 4000000 in
theorem getchild_any (s : ByteArray) (hs : s.size ≤ 140737488355328) (w : World) :
    Calls Try.prog 68 #[.string s] w fun x w' => x = .returned (getCV (Nd.getC s)) ∧ Below w.heap.size w w' := by
  by_cases h3 : s.size < 3
  · rw [getC_short h3]
    have H1 := Lib.hid (fun W => get_no03 s h3 W)
    clear h3
    go_enter Try.func68, Try.ntmps68
    go_wp2_with (first | (go_at_call 101; refine (H1.out _).mono ?_; rintro x w1 ⟨rfl, rfl⟩))
    refine bodyPost_ret (v := .tuple #[.agg #[.string ⟨#[]⟩, .int .i64 0, .int .i64 0], .int .i64 0, .bool false]) (by simp [results, Try.results68, go_sem]) rfl ?_
    exact ⟨rfl, by repeat (first | exact Below.refl _ _ | refine Below.alloc ?_ (by simp) _ | refine Below.setCell ?_ (by simp) _)⟩
  · have H1 := Lib.hid (fun W => get_03 s (by omega) hs W)
    have H2 := Lib.hid (fun W => getentry_any (s.extract 3 s.size) (by simp; omega) W)
    have h33 : (3 : Int) ≤ (s.size : Int) := by omega
    have h34 : 3 ≤ s.size := by omega
    cases hE : Nd.getE (s.extract 3 s.size) with
    | none =>
      rw [getC_none hE]
      rw [hE] at H2
      generalize ((Oct.getN s.data.toList 0 3 : Nat) : Int) = n at H1
      clear hE h3
      go_enter Try.func68, Try.ntmps68
      go_wp2_with (first | (go_at_call 101; refine (H1.out _).mono ?_; rintro x w1 ⟨rfl, hb1⟩) | (go_at_call 66; refine (H2.out _).mono ?_; rintro x w2 ⟨rfl, hb2⟩; unfold getEV; have hlt : w.heap.size < w2.heap.size := (by have h7 := hb1.size; have h8 := hb2.size; simp at h7; omega); obtain ⟨c0, c1, c2, f0, f1, f2⟩ := blkE (blk_old (blk_new hb1) hb2)))
      have hne : w2.heap.size ≠ w.heap.size := by omega
      refine bodyPost_ret (v := .tuple #[.agg #[.string ⟨#[]⟩, .int .i64 0, .int .i64 0], .int .i64 0, .bool false]) (by simp [results, Try.results68, go_sem, c0, c1, c2, hlt]) rfl ?_
      have hbw := andThen (below_past hb1) hb2
      exact ⟨rfl, by repeat (first | (with_reducible exact hbw) | (with_reducible refine Below.alloc ?_ (by first | (simp; done) | (simp; omega)) _) | (with_reducible refine Below.setCell ?_ (by first | (simp; done) | (simp; omega)) _))⟩
    | some e =>
      rw [getC_some h34 hE]
      rw [hE] at H2
      generalize ((Oct.getN s.data.toList 0 3 : Nat) : Int) = n at H1 ⊢
      clear hE h3
      obtain ⟨K, pg, sl⟩ := e
      go_enter Try.func68, Try.ntmps68
      go_wp2_with (first | (go_at_call 101; refine (H1.out _).mono ?_; rintro x w1 ⟨rfl, hb1⟩) | (go_at_call 66; refine (H2.out _).mono ?_; rintro x w2 ⟨rfl, hb2⟩; unfold getEV; have hlt : w.heap.size < w2.heap.size := (by have h7 := hb1.size; have h8 := hb2.size; simp at h7; omega); obtain ⟨c0, c1, c2, f0, f1, f2⟩ := blkE (blk_old (blk_new hb1) hb2)))
      have hne : w2.heap.size ≠ w.heap.size := by omega
      refine bodyPost_ret (v := .tuple #[.agg #[.string K, .int .i64 pg, .int .i64 sl], .int .i64 n, .bool true]) (by simp [results, Try.results68, go_sem, c0, c1, c2, hlt]) rfl ?_
      have hbw := andThen (below_past hb1) hb2
      exact ⟨rfl, by repeat (first | (with_reducible exact hbw) | (with_reducible refine Below.alloc ?_ (by first | (simp; done) | (simp; omega)) _) | (with_reducible refine Below.setCell ?_ (by first | (simp; done) | (simp; omega)) _))⟩
set_option maxRecDepth 100000 in
set_option maxHeartbeats 4000000 in
theorem rgetentry_any (s : ByteArray) (hs : s.size ≤ 140737488355328) (w : World) :
    Calls Try.prog 67 #[.string s] w fun x w' => x = .returned (getEV (Nd.getE s)) ∧ Below w.heap.size w w' := by
  by_cases h5 : s.size < 5
  · rw [getE_none (.inl h5)]
    have h7 : (s.size : Int) < 5 := by omega
    clear h5
    go_enter Try.func67, Try.ntmps67
    go_wp2_with fail
    refine bodyPost_ret (v := .tuple #[.agg #[.string ⟨#[]⟩, .int .i64 0, .int .i64 0], .bool false]) (by simp [results, Try.results67, go_sem]) rfl ?_
    exact ⟨rfl, by repeat (first | exact Below.refl _ _ | refine Below.alloc ?_ (by simp) _ | refine Below.setCell ?_ (by simp) _)⟩
  · have h55 : (5 : Int) ≤ (s.size : Int) := by omega
    by_cases h6 : 105 < s.size
    · rw [getE_none (.inr h6)]
      have h7 : (105 : Int) < (s.size : Int) := by omega
      clear h5 h6
      go_enter Try.func67, Try.ntmps67
      go_wp2_with fail
      refine bodyPost_ret (v := .tuple #[.agg #[.string ⟨#[]⟩, .int .i64 0, .int .i64 0], .bool false]) (by simp [results, Try.results67, go_sem]) rfl ?_
      exact ⟨rfl, by repeat (first | exact Below.refl _ _ | refine Below.alloc ?_ (by simp) _ | refine Below.setCell ?_ (by simp) _)⟩
    · have H1 := Lib.hid (fun W => rget_03 s (by omega) hs W)
      have H2 := Lib.hid (fun W => rget_32 s (by omega) hs W)
      rw [getE_some (by omega) (by omega)]
      generalize ((Oct.getN s.data.toList 0 3 : Nat) : Int) = n at H1 ⊢
      generalize ((Oct.getN s.data.toList 3 2 : Nat) : Int) = m at H2 ⊢
      have h7 : (s.size : Int) ≤ 105 := by omega
      have h8 : 5 ≤ s.size := by omega
      clear h5 h6
      go_enter Try.func67, Try.ntmps67
      go_wp2_with (first | (go_at_call 102; ((with_reducible refine (H1.out _).mono ?_); rintro x w1 ⟨rfl, rfl⟩)) | (go_at_call 102; ((with_reducible refine (H2.out _).mono ?_); rintro x w2 ⟨rfl, rfl⟩)))
      refine bodyPost_ret (v := .tuple #[.agg #[.string (s.extract 5 s.size), .int .i64 n, .int .i64 m], .bool true]) (by simp [results, Try.results67, go_sem]) rfl ?_
      exact ⟨rfl, by repeat (first | exact Below.refl _ _ | refine Below.alloc ?_ (by simp) _ | refine Below.setCell ?_ (by simp) _)⟩
set_option maxRecDepth 100000 in
set_option maxHeartbeats 4000000 in
theorem rgetchild_any (s : ByteArray) (hs : s.size ≤ 140737488355328) (w : World) :
    Calls Try.prog 69 #[.string s] w fun x w' => x = .returned (getCV (Nd.getC s)) ∧ Below w.heap.size w w' := by
  by_cases h3 : s.size < 3
  · rw [getC_short h3]
    have h33 : (s.size : Int) < 3 := by omega
    clear h3
    go_enter Try.func69, Try.ntmps69
    go_wp2_with fail
    refine bodyPost_ret (v := .tuple #[.agg #[.string ⟨#[]⟩, .int .i64 0, .int .i64 0], .int .i64 0, .bool false]) (by simp [results, Try.results69, go_sem]) rfl ?_
    exact ⟨rfl, by repeat (first | exact Below.refl _ _ | refine Below.alloc ?_ (by simp) _ | refine Below.setCell ?_ (by simp) _)⟩
  · have H1 := Lib.hid (fun W => rget_03 s (by omega) hs W)
    have H2 := Lib.hid (fun W => rgetentry_any (s.extract 3 s.size) (by simp; omega) W)
    have h33 : (3 : Int) ≤ (s.size : Int) := by omega
    have h34 : 3 ≤ s.size := by omega
    cases hE : Nd.getE (s.extract 3 s.size) with
    | none =>
      rw [getC_none hE]
      rw [hE] at H2
      generalize ((Oct.getN s.data.toList 0 3 : Nat) : Int) = n at H1
      clear hE h3
      go_enter Try.func69, Try.ntmps69
      go_wp2_with (first | (go_at_call 67; refine (H2.out _).mono ?_; rintro x w2 ⟨rfl, hb2⟩; unfold getEV; have hlt : w.heap.size < w2.heap.size := (by have h8 := hb2.size; simp at h8; omega); obtain ⟨c0, c1, c2, f0, f1, f2⟩ := blkE (blk_new hb2)))
      have hne : w2.heap.size ≠ w.heap.size := by omega
      refine bodyPost_ret (v := .tuple #[.agg #[.string ⟨#[]⟩, .int .i64 0, .int .i64 0], .int .i64 0, .bool false]) (by simp [results, Try.results69, go_sem, c0, c1, c2, hlt]) rfl ?_
      have hbw := below_past hb2
      exact ⟨rfl, by repeat (first | (with_reducible exact hbw) | (with_reducible refine Below.alloc ?_ (by first | (simp; done) | (simp; omega)) _) | (with_reducible refine Below.setCell ?_ (by first | (simp; done) | (simp; omega)) _))⟩
    | some e =>
      rw [getC_some h34 hE]
      rw [hE] at H2
      generalize ((Oct.getN s.data.toList 0 3 : Nat) : Int) = n at H1 ⊢
      clear hE h3
      obtain ⟨K, pg, sl⟩ := e
      go_enter Try.func69, Try.ntmps69
      go_wp2_with (first | (go_at_call 102; refine (H1.out _).mono ?_; rintro x w3 ⟨rfl, rfl⟩) | (go_at_call 67; refine (H2.out _).mono ?_; rintro x w2 ⟨rfl, hb2⟩; unfold getEV; have hlt : w.heap.size < w2.heap.size := (by have h8 := hb2.size; simp at h8; omega); obtain ⟨c0, c1, c2, f0, f1, f2⟩ := blkE (blk_new hb2)))
      have hne : w2.heap.size ≠ w.heap.size := by omega
      refine bodyPost_ret (v := .tuple #[.agg #[.string K, .int .i64 pg, .int .i64 sl], .int .i64 n, .bool true]) (by simp [results, Try.results69, go_sem, c0, c1, c2, hlt]) rfl ?_
      have hbw := below_past hb2
      exact ⟨rfl, by repeat (first | (with_reducible exact hbw) | (with_reducible refine Below.alloc ?_ (by first | (simp; done) | (simp; omega)) _) | (with_reducible refine Below.setCell ?_ (by first | (simp; done) | (simp; omega)) _))⟩
end Go.Proofs.Ytgbihdlahghonaa
/- Appending texts to a slice of the call's own; the records of a page with a slot turned, both sides. -/
namespace Go.Proofs.Ytgbihdlahghonaa
open Go.RowKit

/-- The slice v, which the call has made since block B, reads as the texts rs. -/
abbrev OwnT (B : Nat) (w : World) (v : Value) (rs : List ByteArray) : Prop := w.ownsRow B 9 1 v rs.length (rs.map Value.string)
theorem OwnT.nil (B : Nat) (w : World) : OwnT B w (.slice none 0 0) [] := ⟨rfl, .inl ⟨rfl, rfl⟩⟩
theorem OwnT.below {B : Nat} {w w' : World} {v : Value} {rs : List ByteArray} (h : OwnT B w v rs) (hb : Below w.heap.size w w') : OwnT B w' v rs := ownsRow_below h hb
theorem OwnT.form {B : Nat} {w : World} {v : Value} {rs : List ByteArray} (h : OwnT B w v rs) : ∃ A c, v = .slice A rs.length c ∧ OwnCells B w A c rs ∧ Cells w A c rs := by
  obtain ⟨A, c, rfl⟩ : ∃ A c, v = .slice A rs.length c := by
    rcases h.2 with ⟨hv, hz⟩ | ⟨g, cap, cur, hv, _⟩
    · exact ⟨none, 0, by rw [hv, hz]⟩
    · exact ⟨_, _, hv⟩
  have h1 := own_cells h rfl
  exact ⟨A, c, rfl, h1, h1.cells⟩
theorem OwnT.block {B : Nat} {w : World} {v : Value} {rs : List ByteArray} (h : OwnT B w v rs) : ∀ k, v.ownBlock = some k → B ≤ k := fun k hk => (h.lt k hk).1

set_option maxRecDepth 100000 in
theorem wpList_app {ops : Array Oper} {rest : List Oper} {o : Oper} {a : Act} {Q : Exit → Act → World → Prop} (w : World) (hgd : o.guard = none) (s x : Operand)
    (ho : o.op = .call { callee := .builtin .append, args := #[s, x], argTypes := #[40, 40] })
    (B : Nat) (v : Value) (xs : List ByteArray) (hs : a.eval s = v) (hown : OwnT B w v xs) (A : Option Addr) (c : Nat) (ys : List ByteArray) (hx : a.eval x = .slice A ys.length c) (hy : Cells w A c ys)
    (hlen : xs.length + ys.length ≤ 1048576) (hbase : B ≤ w.heap.size)
    (h : ∀ v' w', OwnT B w' v' (xs ++ ys) → w.grownBy w' v.ownBlock → Below B w w' → wpList Try.prog ops Q rest (a.put o.dst v') w') : wpList Try.prog ops Q (o :: rest) a w := by
  obtain ⟨i0, hi, hz0, hz1, hz2⟩ := info_parts info_string
  have hB : ∀ w' : World, w.grownBy w' v.ownBlock → Below B w w' := fun w' hg => (Below.refl _ _).grown hg hbase hown.block
  rcases A with _ | ad
  · have hn : ys = [] := by
      rcases Nat.eq_zero_or_pos ys.length with h0 | h0
      · exact List.eq_nil_of_length_eq_zero h0
      · obtain ⟨b, off, e, _⟩ := hy h0
        cases e
    subst hn
    refine wpList_plain hgd fun K hK => ?_
    have hrun : (Builtin.append_ #[40, 40] o.type #[v, .slice none 0 c]).run Try.prog w = .ok v w := by
      rcases hown.2 with ⟨rfl, hz⟩ | ⟨g, cap, cur, rfl, _, _, hnc, _⟩
      · simp [Builtin.append_, run_underlying Try.underlying40, sizeOf, typeInfo, hi, Builtin.lenOf, Builtin.firstCells]
      · simp [Builtin.append_, run_underlying Try.underlying40, sizeOf, typeInfo, hi, Builtin.lenOf, Builtin.firstCells, hnc, storeCells]
    unfold Oper.wp execOp
    have hx' : a.eval x = .slice none 0 c := hx
    simp only [ho, resolve, invoke, builtin, Sem.run_bind, Sem.run_pure, Result.andThen_ok, List.map_toArray, List.map_cons, List.map_nil, hs, hx', hrun]
    exact hK _ _ (h v w (by simpa using hown) (World.grownBy.refl w _) (Below.refl _ _))
  · refine wpList_append_own w hgd s x _ ho B 9 i0 (.string ⟨#[]⟩) 1 16 Try.underlying40 hi hz0 hz1 hz2 rfl (by omega) v xs.length (xs.map Value.string) hs hown ad ys.length c (ys.map Value.string) hx (by simp) ?_ ?_ (by simp only [maxLen]; omega) (by omega) hbase ?_
    · intro j u hu
      rw [List.getElem?_map] at hu
      obtain ⟨r, hr, rfl⟩ := Option.map_eq_some_iff.1 hu
      obtain ⟨hj, rfl⟩ := List.getElem?_eq_some_iff.1 hr
      obtain ⟨b, off, e, _, _, hcell⟩ := hy (by omega)
      injection e with e
      subst e
      rw [show (⟨b, off, none⟩ : Addr).add j = ⟨b, off + j, none⟩ from Addr.add_mid b off j]
      exact hcell j hj
    · intro u hu
      obtain ⟨r, _, rfl⟩ := List.mem_map.1 hu
      rfl
    · intro v' w' h1 h2 _
      exact h v' w' (by unfold OwnT; rw [List.length_append, List.map_append]; exact h1) h2 (hB w' h2)
/-- The same, the source's length spelt otherwise. -/
theorem wpList_appN {ops : Array Oper} {rest : List Oper} {o : Oper} {a : Act} {Q : Exit → Act → World → Prop} (w : World) (hgd : o.guard = none) (s x : Operand)
    (ho : o.op = .call { callee := .builtin .append, args := #[s, x], argTypes := #[40, 40] })
    (B : Nat) (v : Value) (xs : List ByteArray) (hs : a.eval s = v) (hown : OwnT B w v xs) (A : Option Addr) (m c : Nat) (ys : List ByteArray) (hm : ys.length = m) (hx : a.eval x = .slice A m c) (hy : Cells w A c ys)
    (hlen : xs.length + m ≤ 1048576) (hbase : B ≤ w.heap.size)
    (h : ∀ v' w', OwnT B w' v' (xs ++ ys) → w.grownBy w' v.ownBlock → Below B w w' → wpList Try.prog ops Q rest (a.put o.dst v') w') : wpList Try.prog ops Q (o :: rest) a w := by
  subst hm
  exact wpList_app w hgd s x ho B v xs hs hown A c ys hx hy hlen hbase h
theorem Cells.take_ {w : World} {A : Option Addr} {c : Nat} {rs : List ByteArray} (h : Cells w A c rs) (m : Nat) : Cells w A c (rs.take m) := fun h0 => by
  rw [List.length_take] at h0
  obtain ⟨b, off, hA, hc, hlt, hcell⟩ := h (by omega)
  refine ⟨b, off, hA, by rw [List.length_take]; omega, hlt, fun j hj => ?_⟩
  rw [List.length_take] at hj
  rw [List.getElem_take]
  exact hcell j (by omega)
theorem Cells.drop_ {w : World} {b off c : Nat} {rs : List ByteArray} (h : Cells w (some ⟨b, off, none⟩) c rs) (m : Nat) : Cells w (some ⟨b, off + m, none⟩) (c - m) (rs.drop m) := fun h0 => by
  rw [List.length_drop] at h0
  obtain ⟨b', off', hA, hc, hlt, hcell⟩ := h (by omega)
  injection hA with hA
  injection hA with hA1 hA2
  subst hA1
  subst hA2
  refine ⟨b, off + m, rfl, by rw [List.length_drop]; omega, hlt, fun j hj => ?_⟩
  rw [List.length_drop] at hj
  rw [List.getElem_drop, Nat.add_assoc]
  exact hcell (m + j) (by omega)
theorem Cells.nil_ (w : World) (A : Option Addr) (c : Nat) {rs : List ByteArray} (h : rs.length = 0) : Cells w A c rs := fun h0 => by omega
end Go.Proofs.Ytgbihdlahghonaa
/- The plain mathematics of a tree's pages: what a page has. -/
namespace Nd

/-- A record of a leaf, or of a node. -/
def decR (leaf : Bool) (r : ByteArray) : Option (Entry × Int) := if leaf then (getE r).map fun e => (e, 0) else getC r
/-- The first k records. -/
def decN (leaf : Bool) (rs : List ByteArray) : Nat → Option (List (Entry × Int))
  | 0 => some []
  | k + 1 => match decN leaf rs k with
    | none => none
    | some l => match decR leaf ((rs[k]?).getD ⟨#[]⟩) with
      | none => none
      | some x => some (l ++ [x])
theorem decN_length (leaf : Bool) (rs : List ByteArray) : ∀ (k : Nat) (l : List (Entry × Int)), decN leaf rs k = some l → l.length = k := by
  intro k
  induction k with
  | zero => intro l h; simp [decN] at h; rw [h]; rfl
  | succ k ih =>
    intro l h
    unfold decN at h
    split at h
    · cases h
    · rename_i l0 h0
      split at h
      · cases h
      · injection h with h
        rw [← h, List.length_append, ih _ h0]; rfl
theorem decN_none (leaf : Bool) (rs : List ByteArray) {k : Nat} (h : decN leaf rs k = none) : ∀ j, decN leaf rs (k + j) = none := by
  intro j
  induction j with
  | zero => exact h
  | succ j ih =>
    show decN leaf rs ((k + j) + 1) = none
    simp only [decN, ih]
theorem decN_stop (leaf : Bool) (rs : List ByteArray) {k n : Nat} {l : List (Entry × Int)} (h : decN leaf rs k = some l) (h2 : decR leaf ((rs[k]?).getD ⟨#[]⟩) = none) (hk : k < n) : decN leaf rs n = none := by
  obtain ⟨j, rfl⟩ : ∃ j, n = (k + 1) + j := ⟨n - (k + 1), by omega⟩
  refine decN_none leaf rs ?_ j
  simp only [decN, h, h2]
theorem decR_empty (leaf : Bool) {r : ByteArray} (h : r.size = 0) : decR leaf r = none := by
  unfold decR getE getC
  cases leaf
  · simp [h]
  · simp [h]
/-- Does each one stand behind the one before it? -/
def rises : List Entry → Bool
  | [] => true
  | e :: l => (match l with | [] => true | f :: _ => lessE e f) && rises l
/-- What a page of a tree has. -/
structure View where
  leaf : Bool
  recs : List ByteArray
  ents : List Entry
  kids : List Int
def riseOf (leaf : Bool) (l : List (Entry × Int)) : List Entry := if leaf then l.map (·.1) else (l.map (·.1)).drop 1
def viewOf (leaf : Bool) (rs : List ByteArray) (l : List (Entry × Int)) : View := ⟨leaf, rs, l.map (·.1), l.map (·.2)⟩
/-- A page's records, as those of a leaf or of a node. -/
def lookL (leaf : Bool) (rs : List ByteArray) : Option View :=
  match decN leaf rs rs.length with
  | none => none
  | some l => if leaf = false ∧ l = [] then none else if rises (riseOf leaf l) then some (viewOf leaf rs l) else none
/-- A page's, of its kind and its records. -/
def lookR (kind : Nat) (rs : List ByteArray) : Option View := if kind = 3 then lookL true rs else if kind = 4 then lookL false rs else none
theorem lookL_none {leaf : Bool} {rs : List ByteArray} (h : decN leaf rs rs.length = none) : lookL leaf rs = none := by unfold lookL; rw [h]
theorem lookL_some {leaf : Bool} {rs : List ByteArray} {l : List (Entry × Int)} (h : decN leaf rs rs.length = some l) : lookL leaf rs = if leaf = false ∧ l = [] then none else if rises (riseOf leaf l) then some (viewOf leaf rs l) else none := by unfold lookL; rw [h]
end Nd
/- A region that draws its order, shown by an invariant of the operations that have come up: no order is told apart from another. -/
namespace Go

section
variable {P : Program} {ops : Array Oper} {Q : Exit → Act → World → Prop} {md : Region.Mode}

/-- How many operations have not come up. -/
def openOps (l : Array Bool) : Nat := (l.toList.filter fun b => !b).length
theorem filter_set_lt : ∀ (l : List Bool) (i : Nat), l[i]? = some false → ((l.set i true).filter fun b => !b).length < (l.filter fun b => !b).length := by
  intro l
  induction l with
  | nil => intro i h; simp at h
  | cons b l ih =>
    intro i h
    cases i with
    | zero =>
      simp at h
      subst h
      simp
    | succ i =>
      simp at h
      have := ih i h
      cases b <;> simp <;> omega
theorem openOps_set {l : Array Bool} {i : Nat} (h : l[i]? = some false) : openOps (l.setIfInBounds i true) < openOps l := by
  unfold openOps
  rw [Array.toList_setIfInBounds]
  exact filter_set_lt l.toList i (by simpa using h)
theorem ready_open {l : Array Bool} {i : Nat} (hs : l.size = ops.size) (h : i ∈ Region.ready md ops l) : l[i]? = some false := by
  unfold Region.ready at h
  rw [List.mem_filter, List.mem_range] at h
  obtain ⟨h1, h2⟩ := h
  rw [Bool.and_eq_true] at h2
  have h3 := h2.1
  rw [Array.getD_eq_getD_getElem?] at h3
  have hl : i < l.size := by omega
  rw [Array.getElem?_eq_getElem hl] at h3 ⊢
  simpa using h3
theorem filter_none : ∀ (l : List Bool), (l.filter fun b => !b).length = 0 → ∀ i : Nat, l[i]? ≠ some false := by
  intro l h i hi
  have hm : false ∈ l.filter fun b => !b := by
    rw [List.mem_filter]
    exact ⟨List.mem_of_getElem? hi, rfl⟩
  rw [List.eq_nil_of_length_eq_zero h] at hm
  cases hm

/-- The law: a condition on (which have come up, the frame, the world) that each operation that may come up keeps, and that gives the post where none is left. -/
theorem wpAny_of_inv {I : Array Bool → Act → World → Prop} (hsize : ∀ l a w, I l a w → l.size = ops.size)
    (hstep : ∀ l a w i, I l a w → i ∈ Region.ready md ops l → wpOp P ops Q i (fun a' w' => I (l.setIfInBounds i true) a' w') a w)
    (hend : ∀ l a w, I l a w → Region.ready md ops l = [] → Q .normal a w) :
    ∀ (fuel : Nat) (l : Array Bool) (a : Act) (w : World), I l a w → openOps l ≤ fuel → wpAny P md ops Q fuel l a w := by
  intro fuel
  induction fuel with
  | zero =>
    intro l a w h hf
    have hr : Region.ready md ops l = [] := by
      cases hr : Region.ready md ops l with
      | nil => rfl
      | cons i rest =>
        have hi : i ∈ Region.ready md ops l := by rw [hr]; exact List.mem_cons_self
        have h1 := ready_open (hsize l a w h) hi
        exact absurd (by simpa using h1) (filter_none l.toList (by unfold openOps at hf; omega) i)
    exact ⟨hr, hend l a w h hr⟩
  | succ fuel ih =>
    intro l a w h hf
    refine ⟨fun hr => hend l a w h hr, fun i hi => ?_⟩
    refine wpOp_mono (fun a' w' h' => ih _ _ _ h' ?_) (hstep l a w i h hi)
    have := openOps_set (ready_open (hsize l a w h) hi)
    omega
theorem openOps_replicate (n : Nat) : openOps (Array.replicate n false) = n := by
  unfold openOps
  simp
/-- A whole region by an invariant. -/
theorem wp_region_inv {id : Nat} {a : Act} {w : World} (hm : P.follows .mixedOrders = true) {I : Array Bool → Act → World → Prop} (hsize : ∀ l a w, I l a w → l.size = ops.size)
    (hstep : ∀ l a w i, I l a w → i ∈ Region.ready .any ops l → wpOp P ops Q i (fun a' w' => I (l.setIfInBounds i true) a' w') a w)
    (hend : ∀ l a w, I l a w → Region.ready .any ops l = [] → Q .normal a w)
    (h0 : I (Array.replicate ops.size false) a { w with drawn := w.drawn + 1 }) : (Code.region id ops true).wp P Q a w :=
  wp_region_any hm (wpAny_of_inv hsize hstep hend _ _ _ _ h0 (by rw [openOps_replicate]; exact Nat.le_refl _))
end

/-- A frame in which the slots of a list hold what a function says. -/
def updL (T : Array Value) (y : Nat → Value) (ds : List Nat) : Array Value := ds.foldl (fun T d => T.setIfInBounds d (y d)) T
theorem updL_size (y : Nat → Value) : ∀ (ds : List Nat) (T : Array Value), (updL T y ds).size = T.size := by
  intro ds
  induction ds with
  | nil => intro T; rfl
  | cons d ds ih => intro T; show (updL (T.setIfInBounds d (y d)) y ds).size = T.size; rw [ih]; simp
theorem updL_get (y : Nat → Value) : ∀ (ds : List Nat) (T : Array Value) (k : Nat), (updL T y ds)[k]? = if k ∈ ds ∧ k < T.size then some (y k) else T[k]? := by
  intro ds
  induction ds with
  | nil => intro T k; simp [updL]
  | cons d ds ih =>
    intro T k
    show (updL (T.setIfInBounds d (y d)) y ds)[k]? = _
    rw [ih, Array.size_setIfInBounds]
    by_cases h1 : k ∈ ds ∧ k < T.size
    · rw [if_pos h1, if_pos ⟨List.mem_cons_of_mem _ h1.1, h1.2⟩]
    · rw [if_neg h1, Array.getElem?_setIfInBounds]
      by_cases h2 : d = k
      · subst h2
        rw [if_pos rfl]
        by_cases h3 : d < T.size
        · rw [if_pos h3, if_pos ⟨List.mem_cons_self, h3⟩]
        · rw [if_neg h3, if_neg (fun h => h3 h.2), Array.getElem?_eq_none (by omega)]
      · rw [if_neg h2, if_neg]
        rintro ⟨h3, h4⟩
        rcases List.mem_cons.1 h3 with h5 | h5
        · exact h2 h5.symm
        · exact h1 ⟨h5, h4⟩
/-- A function with one value turned. -/
def turn (y : Nat → Value) (d : Nat) (v : Value) : Nat → Value := fun k => if k = d then v else y k
theorem updL_turn (T : Array Value) (y : Nat → Value) (ds : List Nat) (d : Nat) (v : Value) (hd : d ∈ ds) : (updL T y ds).setIfInBounds d v = updL T (turn y d v) ds := by
  apply Array.ext_getElem?
  intro k
  rw [Array.getElem?_setIfInBounds, updL_get, updL_get, updL_size]
  by_cases h : d = k
  · subst h
    rw [if_pos rfl]
    by_cases h2 : d < T.size
    · rw [if_pos h2, if_pos ⟨hd, h2⟩]; simp [turn]
    · rw [if_neg h2, if_neg (fun h => h2 h.2), Array.getElem?_eq_none (by omega)]
  · rw [if_neg h]
    have : turn y d v k = y k := by unfold turn; rw [if_neg (fun e => h e.symm)]
    rw [this]

section
variable {P : Program} {ops : Array Oper} {Q : Exit → Act → World → Prop}

theorem updL_self (T : Array Value) (ds : List Nat) : updL T (fun k => T.getD k undef) ds = T := by
  apply Array.ext_getElem?
  intro k
  rw [updL_get]
  by_cases h : k ∈ ds ∧ k < T.size
  · rw [if_pos h, Array.getD_eq_getD_getElem?, Array.getElem?_eq_getElem h.2]; rfl
  · rw [if_neg h]
theorem updL_in {T : Array Value} {y : Nat → Value} {ds : List Nat} {k : Nat} (h : k ∈ ds) (hs : k < T.size) : (updL T y ds).getD k undef = y k := by
  rw [Array.getD_eq_getD_getElem?, updL_get, if_pos ⟨h, hs⟩]; rfl
theorem updL_out {T : Array Value} {y : Nat → Value} {ds : List Nat} {k : Nat} (h : k ∉ ds) : (updL T y ds).getD k undef = T.getD k undef := by
  rw [Array.getD_eq_getD_getElem?, updL_get, if_neg (fun e => h e.1), ← Array.getD_eq_getD_getElem?]

/-- Before an operation that may come up: those that it waits for have come up. -/
theorem ready_after {md : Region.Mode} {l : Array Bool} {i : Nat} {o : Oper} (ho : ops[i]? = some o) (h : i ∈ Region.ready md ops l) : l.getD i true = false ∧ ∀ e ∈ o.after, Region.binds md e = true → l.getD e.on false = true := by
  unfold Region.ready at h
  rw [List.mem_filter] at h
  obtain ⟨_, h2⟩ := h
  rw [Bool.and_eq_true, ho] at h2
  refine ⟨by simpa using h2.1, fun e he hb => ?_⟩
  have h3 := h2.2
  simp only [Option.map_some, Option.getD_some] at h3
  rw [Array.all_eq_true_iff_forall_mem] at h3
  have h4 := h3 e he
  rw [hb] at h4
  simpa using h4

/-- A region that draws its order, by an invariant of (what has come up, the values of its own slots, the world). -/
theorem wp_region_F {id : Nat} {T : Array Value} {w : World} (ds : List Nat) (F : Array Bool → (Nat → Value) → World → Prop) (hm : P.follows .mixedOrders = true)
    (hsize : ∀ l y w, F l y w → l.size = ops.size)
    (hstep : ∀ l y w i, F l y w → i ∈ Region.ready .any ops l → wpOp P ops Q i (fun a' w' => ∃ y', a' = ⟨updL T y' ds, []⟩ ∧ F (l.setIfInBounds i true) y' w') ⟨updL T y ds, []⟩ w)
    (hend : ∀ l y w, F l y w → Region.ready .any ops l = [] → Q .normal ⟨updL T y ds, []⟩ w)
    (h0 : F (Array.replicate ops.size false) (fun k => T.getD k undef) { w with drawn := w.drawn + 1 }) : (Code.region id ops true).wp P Q ⟨T, []⟩ w := by
  refine wp_region_inv hm (I := fun l a w => ∃ y, a = ⟨updL T y ds, []⟩ ∧ F l y w) ?_ ?_ ?_ ?_
  · rintro l a w ⟨y, _, h⟩
    exact hsize l y w h
  · rintro l a w i ⟨y, rfl, h⟩ hi
    exact hstep l y w i h hi
  · rintro l a w ⟨y, rfl, h⟩ hr
    exact hend l y w h hr
  · exact ⟨_, by rw [updL_self], h0⟩

/-- An operation that leaves a value in its own slot. -/
theorem wpOp_valueF {T : Array Value} {ds : List Nat} {y : Nat → Value} {F : Array Bool → (Nat → Value) → World → Prop} {l : Array Bool} {i : Nat} {w w' : World} {o : Oper} {d : Nat} {v : Value}
    (ho : ops[i]? = some o) (hg : o.guard = none) (hd : o.dst = some d) (hm : d ∈ ds) (hr : (execOp (Act.eval ⟨updL T y ds, []⟩) o).run P w = .ok (.value v) w')
    (hF : F (l.setIfInBounds i true) (turn y d v) w') : wpOp P ops Q i (fun a' w' => ∃ y', a' = ⟨updL T y' ds, []⟩ ∧ F (l.setIfInBounds i true) y' w') ⟨updL T y ds, []⟩ w := by
  unfold wpOp
  simp only [ho]
  rw [if_pos (by simp [Region.wanted, hg])]
  left
  unfold Oper.wp
  rw [hr, Oper.upon_value, hd]
  refine ⟨turn y d v, ?_, hF⟩
  show (Act.mk ((updL T y ds).setIfInBounds d v) [] : Act) = _
  rw [updL_turn T y ds d v hm]
/-- A store. -/
theorem wpOp_skipF {T : Array Value} {ds : List Nat} {y : Nat → Value} {F : Array Bool → (Nat → Value) → World → Prop} {l : Array Bool} {i : Nat} {w w' : World} {o : Oper} {n : Next}
    (ho : ops[i]? = some o) (hg : o.guard = none) (hd : o.dst = none) (hn : n = .skip ∨ ∃ v, n = .value v) (hr : (execOp (Act.eval ⟨updL T y ds, []⟩) o).run P w = .ok n w')
    (hF : F (l.setIfInBounds i true) y w') : wpOp P ops Q i (fun a' w' => ∃ y', a' = ⟨updL T y' ds, []⟩ ∧ F (l.setIfInBounds i true) y' w') ⟨updL T y ds, []⟩ w := by
  unfold wpOp
  simp only [ho]
  rw [if_pos (by simp [Region.wanted, hg])]
  left
  unfold Oper.wp
  rw [hr]
  rcases hn with rfl | ⟨v, rfl⟩
  · rw [Oper.upon_skip, hd]; exact ⟨y, rfl, hF⟩
  · rw [Oper.upon_value, hd]; exact ⟨y, rfl, hF⟩
end

/-- One more has come up. -/
def on (b : Nat → Bool) (i : Nat) : Nat → Bool := fun k => if k = i then true else b k
theorem on_getD (l : Array Bool) (i : Nat) (h : i < l.size) : (fun k => (l.setIfInBounds i true).getD k false) = on (fun k => l.getD k false) i := by
  funext k
  unfold on
  rw [Array.getD_eq_getD_getElem?, Array.getElem?_setIfInBounds]
  by_cases hk : i = k
  · subst hk; rw [if_pos rfl, if_pos h, if_pos rfl]; rfl
  · rw [if_neg hk, if_neg (fun e => hk e.symm)]
    show _ = l.getD k false
    rw [Array.getD_eq_getD_getElem?]
section
variable {P : Program} {ops : Array Oper} {Q : Exit → Act → World → Prop}
/-- Each operation waits only for ones that stand ahead of it. -/
def orderly (ops : Array Oper) : Bool := (List.range ops.size).all fun i => match ops[i]? with | some o => o.after.all fun e => decide (e.on < i) | none => true
theorem all_of_ready {l : Array Bool} (hs : l.size = ops.size) (ho : orderly ops = true) (h : Region.ready .any ops l = []) : ∀ i, i < ops.size → l.getD i false = true := by
  intro i
  induction i using Nat.strongRecOn with
  | _ i ih =>
    intro hi
    rcases hb : l.getD i false with _ | _
    · exfalso
      have hm : i ∈ Region.ready .any ops l := by
        unfold Region.ready
        rw [List.mem_filter, List.mem_range]
        refine ⟨hi, ?_⟩
        rw [Bool.and_eq_true]
        constructor
        · rw [Array.getD_eq_getD_getElem?] at hb ⊢
          rw [Array.getElem?_eq_getElem (by omega)] at hb ⊢
          simpa using hb
        · have hoi : ops[i]? = some ops[i] := Array.getElem?_eq_getElem hi
          rw [hoi]
          simp only [Option.map_some, Option.getD_some]
          unfold orderly at ho
          rw [List.all_eq_true] at ho
          have h1 := ho i (List.mem_range.2 hi)
          rw [hoi] at h1
          simp only at h1
          rw [Array.all_eq_true_iff_forall_mem] at h1 ⊢
          intro e he
          have h2 := h1 e he
          rw [decide_eq_true_iff] at h2
          rw [ih e.on h2 (by omega)]
          simp
      rw [h] at hm
      cases hm
    · rfl

/-- What a step owes. -/
structure StepG (P : Program) (ops : Array Oper) (Q : Exit → Act → World → Prop) (T : Array Value) (ds : List Nat) (G : (Nat → Bool) → (Nat → Value) → World → Prop) (D : Nat → Bool) (y : Nat → Value) (i : Nat) (o : Oper) (w : World) : Prop where
  out : (if Region.wanted o (yielded ops (updL T y ds)) then o.wp P ⟨updL T y ds, []⟩ w (fun a' w' => ∃ y', a' = ⟨updL T y' ds, []⟩ ∧ G (on D i) y' w') Q else False)

theorem wp_region_G {id : Nat} {T : Array Value} {w : World} (ds : List Nat) (G : (Nat → Bool) → (Nat → Value) → World → Prop) (hm : P.follows .mixedOrders = true) (hord : orderly ops = true)
    (hstep : ∀ D y w i o, G D y w → ops[i]? = some o → D i = false → (o.after.all fun e => !Region.binds .any e || D e.on) = true → StepG P ops Q T ds G D y i o w)
    (hend : ∀ D y w, G D y w → (∀ i, i < ops.size → D i = true) → Q .normal ⟨updL T y ds, []⟩ w)
    (h0 : G (fun _ => false) (fun k => T.getD k undef) { w with drawn := w.drawn + 1 }) : (Code.region id ops true).wp P Q ⟨T, []⟩ w := by
  refine wp_region_F ds (fun l y w => l.size = ops.size ∧ G (fun k => l.getD k false) y w) hm (fun _ _ _ h => h.1) ?_ ?_ ?_
  · rintro l y w i ⟨hl, h⟩ hi
    have hlt : i < ops.size := by have := (List.mem_filter.1 hi).1; simpa using this
    have ho : ops[i]? = some ops[i] := Array.getElem?_eq_getElem hlt
    obtain ⟨h1, h2⟩ := ready_after ho hi
    have hDi : l.getD i false = false := by
      rw [Array.getD_eq_getD_getElem?] at h1 ⊢
      rw [Array.getElem?_eq_getElem (by omega)] at h1 ⊢
      simpa using h1
    have hS := hstep _ y w i _ h ho hDi (by
      rw [Array.all_eq_true_iff_forall_mem]
      intro e he
      cases hb : Region.binds .any e with
      | false => rfl
      | true => rw [h2 e he hb]; rfl)
    have hS := hS.out
    unfold wpOp
    rw [ho]
    simp only
    split at hS
    · rename_i hw
      rw [if_pos hw]
      left
      refine Oper.wp_mono (fun a' w' h' => ?_) hS
      obtain ⟨y', e1, e2⟩ := h'
      exact ⟨y', e1, by simpa using hl, by rw [on_getD l i (by omega)]; exact e2⟩
    · exact hS.elim
  · rintro l y w ⟨hl, h⟩ hr
    exact hend _ y w h (all_of_ready hl hord hr)
  · refine ⟨by simp, ?_⟩
    have e : (fun k => (Array.replicate ops.size false).getD k false) = fun _ => false := by
      funext k
      rw [Array.getD_eq_getD_getElem?, Array.getElem?_replicate]
      split <;> rfl
    rw [e]; exact h0
theorem stepG_value {T : Array Value} {ds : List Nat} {G : (Nat → Bool) → (Nat → Value) → World → Prop} {D : Nat → Bool} {y : Nat → Value} {i : Nat} {o : Oper} {w w' : World} {d : Nat} {v : Value}
    (hg : o.guard = none) (hd : o.dst = some d) (hm : d ∈ ds) (hr : (execOp (Act.eval ⟨updL T y ds, []⟩) o).run P w = .ok (.value v) w') (hG : G (on D i) (turn y d v) w') : StepG P ops Q T ds G D y i o w := by
  constructor
  rw [if_pos (by simp [Region.wanted, hg])]
  unfold Oper.wp
  rw [hr, Oper.upon_value, hd]
  exact ⟨turn y d v, by show (Act.mk ((updL T y ds).setIfInBounds d v) [] : Act) = _; rw [updL_turn T y ds d v hm], hG⟩
theorem stepG_wp {T : Array Value} {ds : List Nat} {G : (Nat → Bool) → (Nat → Value) → World → Prop} {D : Nat → Bool} {y : Nat → Value} {i : Nat} {o : Oper} {w : World}
    (hg : o.guard = none) (h : o.wp P ⟨updL T y ds, []⟩ w (fun a' w' => ∃ y', a' = ⟨updL T y' ds, []⟩ ∧ G (on D i) y' w') Q) : StepG P ops Q T ds G D y i o w := by
  constructor
  rw [if_pos (by simp [Region.wanted, hg])]
  exact h
theorem put_turn {T : Array Value} {y : Nat → Value} {ds : List Nat} {d : Nat} {v : Value} (hm : d ∈ ds) : (Act.mk (updL T y ds) []).put (some d) v = ⟨updL T (turn y d v) ds, []⟩ := by
  show (Act.mk ((updL T y ds).setIfInBounds d v) [] : Act) = _
  rw [updL_turn T y ds d v hm]
end
end Go
