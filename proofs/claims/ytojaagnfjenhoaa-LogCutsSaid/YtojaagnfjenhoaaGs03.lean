/- The walks over package rec: the lists of a checkpoint. -/
import Derived.Test.YtojaagnfjenhoaaGs02
namespace Rc
instance : DecidableEq TxnAt := fun a b => by
  obtain ⟨a1, a2, a3, a4⟩ := a
  obtain ⟨b1, b2, b3, b4⟩ := b
  by_cases h : a1 = b1 ∧ a2 = b2 ∧ a3 = b3 ∧ a4 = b4
  · exact .isTrue (by obtain ⟨rfl, rfl, rfl, rfl⟩ := h; rfl)
  · exact .isFalse (fun e => by injection e with e1 e2 e3 e4; exact h ⟨e1, e2, e3, e4⟩)
instance : DecidableEq DirtyAt := fun a b => by
  obtain ⟨a1, a2⟩ := a
  obtain ⟨b1, b2⟩ := b
  by_cases h : a1 = b1 ∧ a2 = b2
  · exact .isTrue (by obtain ⟨rfl, rfl⟩ := h; rfl)
  · exact .isFalse (fun e => by injection e with e1 e2; exact h ⟨e1, e2⟩)
theorem all_no {α : Type} (R : α → Prop) [DecidablePred R] {l : List α} {k : Nat} (hk : k < l.length) (h : ¬ R l[k]) : decide (∀ x ∈ l, R x) = false := decide_eq_false (fun h' => h (h' _ (List.getElem_mem hk)))
theorem all_yes {α : Type} (R : α → Prop) [DecidablePred R] {l : List α} (h : ∀ k (hk : k < l.length), R l[k]) : decide (∀ x ∈ l, R x) = true := decide_eq_true (fun x hx => by
  obtain ⟨k, hk, rfl⟩ := List.getElem_of_mem hx
  exact h k hk)
theorem eq_no {α : Type} [DecidableEq α] {l m : List α} {k : Nat} (hk : k < l.length) (hk' : k < m.length) (h : l[k] ≠ m[k]) : decide (l = m) = false := decide_eq_false (fun e => h (by subst e; rfl))
theorem eq_yes {α : Type} [DecidableEq α] {l m : List α} (hl : l.length = m.length) (h : ∀ k (hk : k < l.length) (hk' : k < m.length), l[k] = m[k]) : decide (l = m) = true := decide_eq_true (List.ext_getElem hl h)
end Rc
namespace Go.Proofs.Ytojaagnfjenhoaa
open Go.RowKit
def txC (t : Rc.TxnAt) : List Value := [.int .i64 t.txn, .int .i64 t.last, .int .i64 t.next, .bool t.done]
def diC (t : Rc.DirtyAt) : List Value := [.int .i64 t.page, .int .i64 t.from_]
theorem txC_len (t : Rc.TxnAt) : (txC t).length = 4 := rfl
theorem diC_len (t : Rc.DirtyAt) : (diC t).length = 2 := rfl
abbrev txV (t : Rc.TxnAt) : Value := .agg #[.int .i64 t.txn, .int .i64 t.last, .int .i64 t.next, .bool t.done]
abbrev diV (t : Rc.DirtyAt) : Value := .agg #[.int .i64 t.page, .int .i64 t.from_]
abbrev TxR (w : World) (A : Option Addr) (c : Nat) (l : List Rc.TxnAt) : Prop := Reads w A c l.length (l.flatMap txC)
abbrev DiR (w : World) (A : Option Addr) (c : Nat) (l : List Rc.DirtyAt) : Prop := Reads w A c l.length (l.flatMap diC)
def IdxOut (b : Bool) (w : World) (e : Ending) (w' : World) : Prop := ∃ k : Int, e = .returned (.int .i64 k) ∧ (if b then k = -1 else 0 ≤ k) ∧ Below w.heap.size w w'
theorem txn_equal (a b : Rc.TxnAt) (w : World) : (Op.equalIn 10000 106 (txV a) (txV b)).run Try.prog w = .ok (decide (a = b)) w := by
  obtain ⟨k1, p1, s1, t1⟩ := a
  obtain ⟨k2, p2, s2, t2⟩ := b
  have hS : Try.prog.underlying 106 = some (.struct (Try.prog.fieldsOf 106)) := by kernel_rfl
  have hp : Try.prog.stoodInHeld 106 = false := by kernel_rfl
  rw [show (10000 : Nat) = 9999 + 1 from rfl, run_equalIn_agg w 9999 106 _ _ hS hp]
  simp only [Program.fieldsOf, Try.underlying106]
  go_simp
  by_cases h0 : k1 = k2 <;> by_cases h1 : p1 = p2 <;> by_cases h2 : s1 = s2 <;> cases t1 <;> cases t2 <;> simp [h0, h1, h2]
theorem dirty_equal (a b : Rc.DirtyAt) (w : World) : (Op.equalIn 10000 108 (diV a) (diV b)).run Try.prog w = .ok (decide (a = b)) w := by
  obtain ⟨k1, p1⟩ := a
  obtain ⟨k2, p2⟩ := b
  have hS : Try.prog.underlying 108 = some (.struct (Try.prog.fieldsOf 108)) := by kernel_rfl
  have hp : Try.prog.stoodInHeld 108 = false := by kernel_rfl
  rw [show (10000 : Nat) = 9999 + 1 from rfl, run_equalIn_agg w 9999 108 _ _ hS hp]
  simp only [Program.fieldsOf, Try.underlying108]
  go_simp
  by_cases h0 : k1 = k2 <;> by_cases h1 : p1 = p2 <;> simp [h0, h1]
theorem txn_bad_any (t : Rc.TxnAt) (w : World) :
    Calls Try.prog 63 #[txV t] w fun e w' => e = .returned (.bool (!decide (Rc.txnR t))) ∧ Below w.heap.size w w' := by
  obtain ⟨a, b, c, d⟩ := t
  have HN := Lib.hid (fun W g h => number3 a b c W g h)
  rw [show decide (Rc.txnR ⟨a, b, c, d⟩) = decide (Rc.num a ∧ Rc.num b ∧ Rc.num c) from rfl]
  generalize decide (Rc.num a ∧ Rc.num b ∧ Rc.num c) = q at HN ⊢
  go_enter Try.func63, Try.ntmps63
  go_wp2_with ((go_at_call 58; (with_reducible refine (HN.out _ _ ?_).mono ?_); (with_reducible exact new2 _ _ _); rintro e w' ⟨rfl, hb⟩))
  go_ret
  exact ⟨rfl, joinB (pastAlloc (allocB _ _)) hb⟩
theorem dirty_bad_any (t : Rc.DirtyAt) (w : World) :
    Calls Try.prog 65 #[diV t] w fun e w' => e = .returned (.bool (!decide (Rc.dirtyR t))) ∧ Below w.heap.size w w' := by
  obtain ⟨a, b⟩ := t
  have HP := Lib.hid (fun W g h => paged1 a W g h)
  have HN := Lib.hid (fun W g h => number1 b W g h)
  rw [show decide (Rc.dirtyR ⟨a, b⟩) = (decide (Rc.pg a) && decide (Rc.num b)) from Bool.decide_and _ _]
  generalize decide (Rc.pg a) = p at HP ⊢
  generalize decide (Rc.num b) = q at HN ⊢
  cases p with
  | false =>
    go_enter Try.func65, Try.ntmps65
    go_wp2_with ((go_at_call 59; (with_reducible refine (HP.out _ _ ?_).mono ?_); (with_reducible exact new2 _ _ _); rintro e w' ⟨rfl, hb⟩))
    go_ret
    exact ⟨rfl, joinB (pastAlloc (allocB _ _)) hb⟩
  | true =>
    go_enter Try.func65, Try.ntmps65
    go_wp2_with (first
      | (go_at_call 59; (with_reducible refine (HP.out _ _ ?_).mono ?_); (with_reducible exact new2 _ _ _); rintro e w' ⟨rfl, hb⟩; have h11 := blkCell (blkPast (heap_alloc_new w _) hb) 1; simp at h11)
      | (go_at_call 58; (with_reducible refine (HN.out _ _ ?_).mono ?_); (with_reducible exact heap_alloc_new _ _); rintro e w2 ⟨rfl, hb2⟩))
    go_ret
    exact ⟨by simp, joinB (pastAlloc (joinB (pastAlloc (allocB _ _)) hb)) hb2⟩

theorem index_txn (l : List Rc.TxnAt) (hn : l.length ≤ 1048576) (A : Option Addr) (c : Nat) (w : World) (hr : TxR w A c l) :
    Calls Try.prog 96 #[.slice A l.length c, .func (.func 63) #[] #[]] w (IdxOut (decide (∀ x ∈ l, Rc.txnR x)) w) := by
  have HR := Lib.hid hr
  have HO := Lib.hid (fun t W => txn_bad_any t W)
  obtain ⟨b, hb⟩ : ∃ b, b = decide (∀ x ∈ l, Rc.txnR x) := ⟨_, rfl⟩
  rw [← hb]
  have HB := Lib.hid hb
  clear hr hb
  go_enter Try.func96, Try.ntmps96
  go_wp2_with fail
  go_loopw [8] (fun i wr => ∃ k : Nat, k ≤ l.length ∧ i = .int .i64 k ∧ (∀ j (hj : j < l.length), j < k → Rc.txnR l[j]) ∧ Below w.heap.size w wr) (fun i _ => l.length - (intOf i).toNat)
  case atStart => exact ⟨0, Nat.zero_le _, rfl, fun _ _ h => absurd h (by omega), Below.refl _ _⟩
  case round =>
    obtain ⟨k, hk, rfl, hall, hbw⟩ := hrel
    have HA := Lib.hid hall
    clear hall
    by_cases hlt : k < l.length
    · obtain ⟨b', off, rfl, hc, hbl, hcell⟩ := read_at txC_len (HR.out.below hbw) hlt
      have q0 := hcell 0 _ rfl
      have q1 := hcell 1 _ rfl
      have q2 := hcell 2 _ rfl
      have q3 := hcell 3 _ rfl
      clear hcell
      simp only [Nat.add_zero] at q0
      have HN := Lib.hid (show ¬ Rc.txnR l[k] → b = false from fun h => HB.out.trans (Rc.all_no _ hlt h))
      have HY := Lib.hid (show Rc.txnR l[k] → ∀ j (hj : j < l.length), j < k + 1 → Rc.txnR l[j] from fun h j hj hjk => by
        rcases Nat.lt_or_eq_of_le (Nat.le_of_lt_succ hjk) with h1 | h1
        · exact HA.out j hj h1
        · subst h1; exact h)
      have HOk := Lib.hid (fun W => HO.out l[k] W)
      generalize l[k] = x at q0 q1 q2 q3 HN HY HOk
      cases hd : decide (Rc.txnR x) with
      | true =>
        have HY2 := Lib.hid (HY.out (of_decide_eq_true hd))
        rw [hd] at HOk
        clear HN HY hd
        obtain ⟨fa, fb, fc, fd⟩ := x
        go_wp2_with ((go_at_call 63; (with_reducible refine (HOk.out _).mono ?_); rintro e w' ⟨rfl, hb2⟩))
        go_roundw
        case rel => exact ⟨k + 1, by omega, by go_num, HY2.out, joinB hbw hb2⟩
        case measure => simp [intOf]; omega
      | false =>
        have HN2 := Lib.hid (HN.out (of_decide_eq_false hd))
        rw [hd] at HOk
        clear HN HY hd
        obtain ⟨fa, fb, fc, fd⟩ := x
        go_wp2_with ((go_at_call 63; (with_reducible refine (HOk.out _).mono ?_); rintro e w' ⟨rfl, hb2⟩))
        go_ret
        exact ⟨k, rfl, by rw [HN2.out]; simp, joinB hbw hb2⟩
    · obtain rfl : k = l.length := by omega
      have HE := Lib.hid (show b = true from HB.out.trans (Rc.all_yes _ fun j hj => HA.out j hj hj))
      go_wp2_with fail
      go_ret
      exact ⟨-1, rfl, by rw [HE.out]; rfl, hbw⟩
theorem contains_txn (l : List Rc.TxnAt) (hn : l.length ≤ 1048576) (A : Option Addr) (c : Nat) (w : World) (hr : TxR w A c l) :
    Calls Try.prog 62 #[.slice A l.length c, .func (.func 63) #[] #[]] w fun e w' => e = .returned (.bool (!decide (∀ x ∈ l, Rc.txnR x))) ∧ Below w.heap.size w w' := by
  have HI := Lib.hid (index_txn l hn A c w hr)
  clear hr
  generalize decide (∀ x ∈ l, Rc.txnR x) = b at HI ⊢
  cases b with
  | true =>
    go_enter Try.func62, Try.ntmps62
    go_wp2_with ((go_at_call 96; refine (HI.out).mono ?_; rintro e w' ⟨k, rfl, hk, hb⟩; obtain rfl : k = -1 := hk))
    go_ret
    exact ⟨rfl, hb⟩
  | false =>
    go_enter Try.func62, Try.ntmps62
    go_wp2_with ((go_at_call 96; refine (HI.out).mono ?_; rintro e w' ⟨k, rfl, hk, hb⟩; have hk0 : 0 ≤ k := by simpa using hk))
    go_ret
    exact ⟨by simp [*], hb⟩
set_option maxRecDepth 100000 in
theorem equal_txn (l m : List Rc.TxnAt) (hn : l.length ≤ 140737488355328) (_hm : m.length ≤ 140737488355328) (A A' : Option Addr) (c c' : Nat) (w : World) (hr : TxR w A c l) (hr' : TxR w A' c' m) :
    Calls Try.prog 98 #[.slice A l.length c, .slice A' m.length c'] w fun e w' => e = .returned (.bool (decide (l = m))) ∧ Below w.heap.size w w' := by
  have HR := Lib.hid hr
  have HR' := Lib.hid hr'
  obtain ⟨b, hb⟩ : ∃ b, b = decide (l = m) := ⟨_, rfl⟩
  rw [← hb]
  have HB := Lib.hid hb
  clear hr hr' hb
  by_cases hlm : l.length = m.length
  rotate_left
  · have hne : ((l.length : Int) == (m.length : Int)) = false := by simp; omega
    have hne2 : ((l.length : Int) != (m.length : Int)) = true := by simp; omega
    have hne3 : (l.length == m.length) = false := by simpa using hlm
    have hne4 : (l.length != m.length) = true := by simpa using hlm
    have HF := Lib.hid (HB.out.trans (decide_eq_false (fun e => hlm (by rw [e]))))
    go_enter Try.func98, Try.ntmps98
    go_wp2_with fail
    all_goals
      go_ret
      exact ⟨by rw [HF.out]; rfl, Below.refl _ _⟩
  · have HLM := Lib.hid hlm
    obtain ⟨n, hn'⟩ : ∃ n, n = l.length := ⟨_, rfl⟩
    rw [← hlm, ← hn']
    rw [← hn'] at hn
    have HNL := Lib.hid hn'
    clear hlm hn'
    go_enter Try.func98, Try.ntmps98
    go_wp2_with fail
    go_loopw [13] (fun i wr => ∃ k : Nat, k ≤ n ∧ i = .int .i64 k ∧ (∀ j (hj : j < l.length) (hj' : j < m.length), j < k → l[j] = m[j]) ∧ Below w.heap.size w wr) (fun i _ => n - (intOf i).toNat)
    case atStart => exact ⟨0, Nat.zero_le _, rfl, fun _ _ _ h => absurd h (by omega), Below.refl _ _⟩
    case round =>
      obtain ⟨k, hk, rfl, hall, hbw⟩ := hrel
      have HA := Lib.hid hall
      clear hall
      by_cases hlt : k < n
      · have hl1 : k < l.length := by rw [← HNL.out]; exact hlt
        have hl2 : k < m.length := by rw [← HLM.out]; exact hl1
        obtain ⟨b1, off, rfl, hc, hbl, hcell⟩ := read_at txC_len (HR.out.below hbw) hl1
        obtain ⟨b2, off2, rfl, hc2, hbl2, hcell2⟩ := read_at txC_len (HR'.out.below hbw) hl2
        have q0 := hcell 0 _ rfl
        have r0 := hcell2 0 _ rfl
        have q1 := hcell 1 _ rfl
        have r1 := hcell2 1 _ rfl
        have q2 := hcell 2 _ rfl
        have r2 := hcell2 2 _ rfl
        have q3 := hcell 3 _ rfl
        have r3 := hcell2 3 _ rfl
        clear hcell hcell2
        simp only [Nat.add_zero] at q0 r0
        have HN := Lib.hid (show l[k] ≠ m[k] → b = false from fun h => HB.out.trans (Rc.eq_no hl1 hl2 h))
        have HY := Lib.hid (show l[k] = m[k] → ∀ j (hj : j < l.length) (hj' : j < m.length), j < k + 1 → l[j] = m[j] from fun h j hj hj' hjk => by
          rcases Nat.lt_or_eq_of_le (Nat.le_of_lt_succ hjk) with h1 | h1
          · exact HA.out j hj hj' h1
          · subst h1; exact h)
        have HE := Lib.hid (fun W => txn_equal l[k] m[k] W)
        clear hc hc2 HA
        generalize l[k] = x at q0 q1 q2 q3 HN HY HE
        generalize m[k] = y at r0 r1 r2 r3 HN HY HE
        have hi1 : (0 : Int) ≤ (k : Int) := by omega
        have hi2 : (k : Int) < (n : Int) := by omega
        have hi3 : decide (k < n) = true := decide_eq_true hlt
        cases hd : decide (x = y) with
        | true =>
          have HY2 := Lib.hid (HY.out (of_decide_eq_true hd))
          have heq := HE.out
          rw [hd] at heq
          clear HN HY hd HE
          obtain ⟨xfa, xfb, xfc, xfd⟩ := x
          obtain ⟨yfa, yfb, yfc, yfd⟩ := y
          go_upto_region 6 with (fail)
          go_quiet (fail)
          go_wp2_with fail
          go_roundw
          case rel => exact ⟨k + 1, by omega, by go_num, HY2.out, joinB hbw (drewB _ _)⟩
          case measure => simp [intOf]; omega
        | false =>
          have HN2 := Lib.hid (HN.out (of_decide_eq_false hd))
          have heq := HE.out
          rw [hd] at heq
          clear HN HY hd HE
          obtain ⟨xfa, xfb, xfc, xfd⟩ := x
          obtain ⟨yfa, yfb, yfc, yfd⟩ := y
          go_upto_region 6 with (fail)
          go_quiet (fail)
          go_wp2_with fail
          go_ret
          exact ⟨by rw [HN2.out]; rfl, joinB hbw (drewB _ _)⟩
      · obtain rfl : k = n := by omega
        have HE := Lib.hid (show b = true from HB.out.trans (Rc.eq_yes HLM.out fun j hj hj' => HA.out j hj hj' (by rw [HNL.out]; exact hj)))
        have hi3 : decide (k < k) = false := decide_eq_false (by omega)
        go_wp2_with fail
        go_ret
        exact ⟨by rw [HE.out]; rfl, hbw⟩

theorem index_dirty (l : List Rc.DirtyAt) (hn : l.length ≤ 1048576) (A : Option Addr) (c : Nat) (w : World) (hr : DiR w A c l) :
    Calls Try.prog 97 #[.slice A l.length c, .func (.func 65) #[] #[]] w (IdxOut (decide (∀ x ∈ l, Rc.dirtyR x)) w) := by
  have HR := Lib.hid hr
  have HO := Lib.hid (fun t W => dirty_bad_any t W)
  obtain ⟨b, hb⟩ : ∃ b, b = decide (∀ x ∈ l, Rc.dirtyR x) := ⟨_, rfl⟩
  rw [← hb]
  have HB := Lib.hid hb
  clear hr hb
  go_enter Try.func97, Try.ntmps97
  go_wp2_with fail
  go_loopw [8] (fun i wr => ∃ k : Nat, k ≤ l.length ∧ i = .int .i64 k ∧ (∀ j (hj : j < l.length), j < k → Rc.dirtyR l[j]) ∧ Below w.heap.size w wr) (fun i _ => l.length - (intOf i).toNat)
  case atStart => exact ⟨0, Nat.zero_le _, rfl, fun _ _ h => absurd h (by omega), Below.refl _ _⟩
  case round =>
    obtain ⟨k, hk, rfl, hall, hbw⟩ := hrel
    have HA := Lib.hid hall
    clear hall
    by_cases hlt : k < l.length
    · obtain ⟨b', off, rfl, hc, hbl, hcell⟩ := read_at diC_len (HR.out.below hbw) hlt
      have q0 := hcell 0 _ rfl
      have q1 := hcell 1 _ rfl
      clear hcell
      simp only [Nat.add_zero] at q0
      have HN := Lib.hid (show ¬ Rc.dirtyR l[k] → b = false from fun h => HB.out.trans (Rc.all_no _ hlt h))
      have HY := Lib.hid (show Rc.dirtyR l[k] → ∀ j (hj : j < l.length), j < k + 1 → Rc.dirtyR l[j] from fun h j hj hjk => by
        rcases Nat.lt_or_eq_of_le (Nat.le_of_lt_succ hjk) with h1 | h1
        · exact HA.out j hj h1
        · subst h1; exact h)
      have HOk := Lib.hid (fun W => HO.out l[k] W)
      generalize l[k] = x at q0 q1 HN HY HOk
      cases hd : decide (Rc.dirtyR x) with
      | true =>
        have HY2 := Lib.hid (HY.out (of_decide_eq_true hd))
        rw [hd] at HOk
        clear HN HY hd
        obtain ⟨fa, fb⟩ := x
        go_wp2_with ((go_at_call 65; (with_reducible refine (HOk.out _).mono ?_); rintro e w' ⟨rfl, hb2⟩))
        go_roundw
        case rel => exact ⟨k + 1, by omega, by go_num, HY2.out, joinB hbw hb2⟩
        case measure => simp [intOf]; omega
      | false =>
        have HN2 := Lib.hid (HN.out (of_decide_eq_false hd))
        rw [hd] at HOk
        clear HN HY hd
        obtain ⟨fa, fb⟩ := x
        go_wp2_with ((go_at_call 65; (with_reducible refine (HOk.out _).mono ?_); rintro e w' ⟨rfl, hb2⟩))
        go_ret
        exact ⟨k, rfl, by rw [HN2.out]; simp, joinB hbw hb2⟩
    · obtain rfl : k = l.length := by omega
      have HE := Lib.hid (show b = true from HB.out.trans (Rc.all_yes _ fun j hj => HA.out j hj hj))
      go_wp2_with fail
      go_ret
      exact ⟨-1, rfl, by rw [HE.out]; rfl, hbw⟩
theorem contains_dirty (l : List Rc.DirtyAt) (hn : l.length ≤ 1048576) (A : Option Addr) (c : Nat) (w : World) (hr : DiR w A c l) :
    Calls Try.prog 64 #[.slice A l.length c, .func (.func 65) #[] #[]] w fun e w' => e = .returned (.bool (!decide (∀ x ∈ l, Rc.dirtyR x))) ∧ Below w.heap.size w w' := by
  have HI := Lib.hid (index_dirty l hn A c w hr)
  clear hr
  generalize decide (∀ x ∈ l, Rc.dirtyR x) = b at HI ⊢
  cases b with
  | true =>
    go_enter Try.func64, Try.ntmps64
    go_wp2_with ((go_at_call 97; refine (HI.out).mono ?_; rintro e w' ⟨k, rfl, hk, hb⟩; obtain rfl : k = -1 := hk))
    go_ret
    exact ⟨rfl, hb⟩
  | false =>
    go_enter Try.func64, Try.ntmps64
    go_wp2_with ((go_at_call 97; refine (HI.out).mono ?_; rintro e w' ⟨k, rfl, hk, hb⟩; have hk0 : 0 ≤ k := by simpa using hk))
    go_ret
    exact ⟨by simp [*], hb⟩
set_option maxRecDepth 100000 in
theorem equal_dirty (l m : List Rc.DirtyAt) (hn : l.length ≤ 140737488355328) (_hm : m.length ≤ 140737488355328) (A A' : Option Addr) (c c' : Nat) (w : World) (hr : DiR w A c l) (hr' : DiR w A' c' m) :
    Calls Try.prog 99 #[.slice A l.length c, .slice A' m.length c'] w fun e w' => e = .returned (.bool (decide (l = m))) ∧ Below w.heap.size w w' := by
  have HR := Lib.hid hr
  have HR' := Lib.hid hr'
  obtain ⟨b, hb⟩ : ∃ b, b = decide (l = m) := ⟨_, rfl⟩
  rw [← hb]
  have HB := Lib.hid hb
  clear hr hr' hb
  by_cases hlm : l.length = m.length
  rotate_left
  · have hne : ((l.length : Int) == (m.length : Int)) = false := by simp; omega
    have hne2 : ((l.length : Int) != (m.length : Int)) = true := by simp; omega
    have hne3 : (l.length == m.length) = false := by simpa using hlm
    have hne4 : (l.length != m.length) = true := by simpa using hlm
    have HF := Lib.hid (HB.out.trans (decide_eq_false (fun e => hlm (by rw [e]))))
    go_enter Try.func99, Try.ntmps99
    go_wp2_with fail
    all_goals
      go_ret
      exact ⟨by rw [HF.out]; rfl, Below.refl _ _⟩
  · have HLM := Lib.hid hlm
    obtain ⟨n, hn'⟩ : ∃ n, n = l.length := ⟨_, rfl⟩
    rw [← hlm, ← hn']
    rw [← hn'] at hn
    have HNL := Lib.hid hn'
    clear hlm hn'
    go_enter Try.func99, Try.ntmps99
    go_wp2_with fail
    go_loopw [13] (fun i wr => ∃ k : Nat, k ≤ n ∧ i = .int .i64 k ∧ (∀ j (hj : j < l.length) (hj' : j < m.length), j < k → l[j] = m[j]) ∧ Below w.heap.size w wr) (fun i _ => n - (intOf i).toNat)
    case atStart => exact ⟨0, Nat.zero_le _, rfl, fun _ _ _ h => absurd h (by omega), Below.refl _ _⟩
    case round =>
      obtain ⟨k, hk, rfl, hall, hbw⟩ := hrel
      have HA := Lib.hid hall
      clear hall
      by_cases hlt : k < n
      · have hl1 : k < l.length := by rw [← HNL.out]; exact hlt
        have hl2 : k < m.length := by rw [← HLM.out]; exact hl1
        obtain ⟨b1, off, rfl, hc, hbl, hcell⟩ := read_at diC_len (HR.out.below hbw) hl1
        obtain ⟨b2, off2, rfl, hc2, hbl2, hcell2⟩ := read_at diC_len (HR'.out.below hbw) hl2
        have q0 := hcell 0 _ rfl
        have r0 := hcell2 0 _ rfl
        have q1 := hcell 1 _ rfl
        have r1 := hcell2 1 _ rfl
        clear hcell hcell2
        simp only [Nat.add_zero] at q0 r0
        have HN := Lib.hid (show l[k] ≠ m[k] → b = false from fun h => HB.out.trans (Rc.eq_no hl1 hl2 h))
        have HY := Lib.hid (show l[k] = m[k] → ∀ j (hj : j < l.length) (hj' : j < m.length), j < k + 1 → l[j] = m[j] from fun h j hj hj' hjk => by
          rcases Nat.lt_or_eq_of_le (Nat.le_of_lt_succ hjk) with h1 | h1
          · exact HA.out j hj hj' h1
          · subst h1; exact h)
        have HE := Lib.hid (fun W => dirty_equal l[k] m[k] W)
        clear hc hc2 HA
        generalize l[k] = x at q0 q1 HN HY HE
        generalize m[k] = y at r0 r1 HN HY HE
        have hi1 : (0 : Int) ≤ (k : Int) := by omega
        have hi2 : (k : Int) < (n : Int) := by omega
        have hi3 : decide (k < n) = true := decide_eq_true hlt
        cases hd : decide (x = y) with
        | true =>
          have HY2 := Lib.hid (HY.out (of_decide_eq_true hd))
          have heq := HE.out
          rw [hd] at heq
          clear HN HY hd HE
          obtain ⟨xfa, xfb⟩ := x
          obtain ⟨yfa, yfb⟩ := y
          go_upto_region 6 with (fail)
          go_quiet (fail)
          go_wp2_with fail
          go_roundw
          case rel => exact ⟨k + 1, by omega, by go_num, HY2.out, joinB hbw (drewB _ _)⟩
          case measure => simp [intOf]; omega
        | false =>
          have HN2 := Lib.hid (HN.out (of_decide_eq_false hd))
          have heq := HE.out
          rw [hd] at heq
          clear HN HY hd HE
          obtain ⟨xfa, xfb⟩ := x
          obtain ⟨yfa, yfb⟩ := y
          go_upto_region 6 with (fail)
          go_quiet (fail)
          go_wp2_with fail
          go_ret
          exact ⟨by rw [HN2.out]; rfl, joinB hbw (drewB _ _)⟩
      · obtain rfl : k = n := by omega
        have HE := Lib.hid (show b = true from HB.out.trans (Rc.eq_yes HLM.out fun j hj hj' => HA.out j hj hj' (by rw [HNL.out]; exact hj)))
        have hi3 : decide (k < k) = false := decide_eq_false (by omega)
        go_wp2_with fail
        go_ret
        exact ⟨by rw [HE.out]; rfl, hbw⟩
end Go.Proofs.Ytojaagnfjenhoaa
/- The walks over the reference of records: lists alike. -/
namespace Go.Proofs.Ytojaagnfjenhoaa
open Go.RowKit

set_option maxRecDepth 100000 in
theorem rsame_txn (l m : List Rc.TxnAt) (hn : l.length ≤ 140737488355328) (_hm : m.length ≤ 140737488355328) (A A' : Option Addr) (c c' : Nat) (w : World) (hr : TxR w A c l) (hr' : TxR w A' c' m) :
    Calls Try.prog 29 #[.slice A l.length c, .slice A' m.length c'] w fun e w' => e = .returned (.bool (decide (l = m))) ∧ Below w.heap.size w w' := by
  have HR := Lib.hid hr
  have HR' := Lib.hid hr'
  obtain ⟨b, hb⟩ : ∃ b, b = decide (l = m) := ⟨_, rfl⟩
  rw [← hb]
  have HB := Lib.hid hb
  clear hr hr' hb
  go_enter Try.func29, Try.ntmps29
  go_wp2_with fail
  go_loopw [5] (fun i wr => ∃ k : Nat, k ≤ l.length ∧ k ≤ m.length ∧ i = .int .i64 k ∧ (∀ j (hj : j < l.length) (hj' : j < m.length), j < k → l[j] = m[j]) ∧ Below w.heap.size w wr) (fun i _ => l.length - (intOf i).toNat)
  case atStart => exact ⟨0, Nat.zero_le _, Nat.zero_le _, rfl, fun _ _ _ h => absurd h (by omega), Below.refl _ _⟩
  case round =>
    obtain ⟨k, hk, hkm, rfl, hall, hbw⟩ := hrel
    have HA := Lib.hid hall
    clear hall
    by_cases hl1 : k < l.length
    · have hi3 : decide (k < l.length) = true := decide_eq_true hl1
      by_cases hl2 : k < m.length
      · have hi4 : decide (k < m.length) = true := decide_eq_true hl2
        obtain ⟨b1, off, rfl, hc, hbl, hcell⟩ := read_at txC_len (HR.out.below hbw) hl1
        obtain ⟨b2, off2, rfl, hc2, hbl2, hcell2⟩ := read_at txC_len (HR'.out.below hbw) hl2
        have q0 := hcell 0 _ rfl
        have r0 := hcell2 0 _ rfl
        have q1 := hcell 1 _ rfl
        have r1 := hcell2 1 _ rfl
        have q2 := hcell 2 _ rfl
        have r2 := hcell2 2 _ rfl
        have q3 := hcell 3 _ rfl
        have r3 := hcell2 3 _ rfl
        clear hcell hcell2
        simp only [Nat.add_zero] at q0 r0
        have HN := Lib.hid (show l[k] ≠ m[k] → b = false from fun h => HB.out.trans (Rc.eq_no hl1 hl2 h))
        have HY := Lib.hid (show l[k] = m[k] → ∀ j (hj : j < l.length) (hj' : j < m.length), j < k + 1 → l[j] = m[j] from fun h j hj hj' hjk => by
          rcases Nat.lt_or_eq_of_le (Nat.le_of_lt_succ hjk) with h1 | h1
          · exact HA.out j hj hj' h1
          · subst h1; exact h)
        have HE := Lib.hid (fun W => txn_equal l[k] m[k] W)
        clear hc hc2 HA
        generalize l[k] = x at q0 q1 q2 q3 HN HY HE
        generalize m[k] = y at r0 r1 r2 r3 HN HY HE
        have hj1 : (0 : Int) ≤ (k : Int) := by omega
        have hj2 : (k : Int) < (l.length : Int) := by omega
        have hj3 : (k : Int) < (m.length : Int) := by omega
        cases hd : decide (x = y) with
        | true =>
          have HY2 := Lib.hid (HY.out (of_decide_eq_true hd))
          have heq := HE.out
          rw [hd] at heq
          clear HN HY hd HE
          obtain ⟨xfa, xfb, xfc, xfd⟩ := x
          obtain ⟨yfa, yfb, yfc, yfd⟩ := y
          go_upto_region 4 with (fail)
          go_quiet (fail)
          go_wp2_with fail
          go_roundw
          case rel => exact ⟨k + 1, by omega, by omega, by go_num, HY2.out, joinB hbw (drewB _ _)⟩
          case measure => simp [intOf]; omega
        | false =>
          have HN2 := Lib.hid (HN.out (of_decide_eq_false hd))
          have heq := HE.out
          rw [hd] at heq
          clear HN HY hd HE
          obtain ⟨xfa, xfb, xfc, xfd⟩ := x
          obtain ⟨yfa, yfb, yfc, yfd⟩ := y
          go_upto_region 4 with (fail)
          go_quiet (fail)
          go_wp2_with fail
          go_ret
          exact ⟨by rw [HN2.out]; rfl, joinB hbw (drewB _ _)⟩
      · have hi4 : decide (k < m.length) = false := decide_eq_false hl2
        have hne3 : (l.length == m.length) = false := by simp; omega
        have hne4 : ((l.length : Int) == (m.length : Int)) = false := by simp; omega
        have HN2 := Lib.hid (HB.out.trans (decide_eq_false (fun e => by rw [e] at hl1; exact hl2 hl1)))
        go_wp2_with fail
        go_ret
        exact ⟨by rw [HN2.out]; simp; try omega, hbw⟩
    · have hi3 : decide (k < l.length) = false := decide_eq_false hl1
      obtain rfl : k = l.length := by omega
      by_cases hlm : l.length = m.length
      · have HE := Lib.hid (show b = true from HB.out.trans (Rc.eq_yes hlm fun j hj hj' => HA.out j hj hj' hj))
        have hne3 : (l.length == m.length) = true := by simp [hlm]
        have hne4 : ((l.length : Int) == (m.length : Int)) = true := by simp [hlm]
        have HLM := Lib.hid hlm
        clear hlm
        go_wp2_with fail
        go_ret
        exact ⟨by rw [HE.out]; have hlm := HLM.out; simp [hlm], hbw⟩
      · have hne3 : (l.length == m.length) = false := by simp; omega
        have hne4 : ((l.length : Int) == (m.length : Int)) = false := by simp; omega
        have HN2 := Lib.hid (HB.out.trans (decide_eq_false (fun e => hlm (by rw [e]))))
        go_wp2_with fail
        go_ret
        exact ⟨by rw [HN2.out]; simp; try omega, hbw⟩

set_option maxRecDepth 100000 in
theorem rsame_dirty (l m : List Rc.DirtyAt) (hn : l.length ≤ 140737488355328) (_hm : m.length ≤ 140737488355328) (A A' : Option Addr) (c c' : Nat) (w : World) (hr : DiR w A c l) (hr' : DiR w A' c' m) :
    Calls Try.prog 30 #[.slice A l.length c, .slice A' m.length c'] w fun e w' => e = .returned (.bool (decide (l = m))) ∧ Below w.heap.size w w' := by
  have HR := Lib.hid hr
  have HR' := Lib.hid hr'
  obtain ⟨b, hb⟩ : ∃ b, b = decide (l = m) := ⟨_, rfl⟩
  rw [← hb]
  have HB := Lib.hid hb
  clear hr hr' hb
  go_enter Try.func30, Try.ntmps30
  go_wp2_with fail
  go_loopw [5] (fun i wr => ∃ k : Nat, k ≤ l.length ∧ k ≤ m.length ∧ i = .int .i64 k ∧ (∀ j (hj : j < l.length) (hj' : j < m.length), j < k → l[j] = m[j]) ∧ Below w.heap.size w wr) (fun i _ => l.length - (intOf i).toNat)
  case atStart => exact ⟨0, Nat.zero_le _, Nat.zero_le _, rfl, fun _ _ _ h => absurd h (by omega), Below.refl _ _⟩
  case round =>
    obtain ⟨k, hk, hkm, rfl, hall, hbw⟩ := hrel
    have HA := Lib.hid hall
    clear hall
    by_cases hl1 : k < l.length
    · have hi3 : decide (k < l.length) = true := decide_eq_true hl1
      by_cases hl2 : k < m.length
      · have hi4 : decide (k < m.length) = true := decide_eq_true hl2
        obtain ⟨b1, off, rfl, hc, hbl, hcell⟩ := read_at diC_len (HR.out.below hbw) hl1
        obtain ⟨b2, off2, rfl, hc2, hbl2, hcell2⟩ := read_at diC_len (HR'.out.below hbw) hl2
        have q0 := hcell 0 _ rfl
        have r0 := hcell2 0 _ rfl
        have q1 := hcell 1 _ rfl
        have r1 := hcell2 1 _ rfl
        clear hcell hcell2
        simp only [Nat.add_zero] at q0 r0
        have HN := Lib.hid (show l[k] ≠ m[k] → b = false from fun h => HB.out.trans (Rc.eq_no hl1 hl2 h))
        have HY := Lib.hid (show l[k] = m[k] → ∀ j (hj : j < l.length) (hj' : j < m.length), j < k + 1 → l[j] = m[j] from fun h j hj hj' hjk => by
          rcases Nat.lt_or_eq_of_le (Nat.le_of_lt_succ hjk) with h1 | h1
          · exact HA.out j hj hj' h1
          · subst h1; exact h)
        have HE := Lib.hid (fun W => dirty_equal l[k] m[k] W)
        clear hc hc2 HA
        generalize l[k] = x at q0 q1 HN HY HE
        generalize m[k] = y at r0 r1 HN HY HE
        have hj1 : (0 : Int) ≤ (k : Int) := by omega
        have hj2 : (k : Int) < (l.length : Int) := by omega
        have hj3 : (k : Int) < (m.length : Int) := by omega
        cases hd : decide (x = y) with
        | true =>
          have HY2 := Lib.hid (HY.out (of_decide_eq_true hd))
          have heq := HE.out
          rw [hd] at heq
          clear HN HY hd HE
          obtain ⟨xfa, xfb⟩ := x
          obtain ⟨yfa, yfb⟩ := y
          go_upto_region 4 with (fail)
          go_quiet (fail)
          go_wp2_with fail
          go_roundw
          case rel => exact ⟨k + 1, by omega, by omega, by go_num, HY2.out, joinB hbw (drewB _ _)⟩
          case measure => simp [intOf]; omega
        | false =>
          have HN2 := Lib.hid (HN.out (of_decide_eq_false hd))
          have heq := HE.out
          rw [hd] at heq
          clear HN HY hd HE
          obtain ⟨xfa, xfb⟩ := x
          obtain ⟨yfa, yfb⟩ := y
          go_upto_region 4 with (fail)
          go_quiet (fail)
          go_wp2_with fail
          go_ret
          exact ⟨by rw [HN2.out]; rfl, joinB hbw (drewB _ _)⟩
      · have hi4 : decide (k < m.length) = false := decide_eq_false hl2
        have hne3 : (l.length == m.length) = false := by simp; omega
        have hne4 : ((l.length : Int) == (m.length : Int)) = false := by simp; omega
        have HN2 := Lib.hid (HB.out.trans (decide_eq_false (fun e => by rw [e] at hl1; exact hl2 hl1)))
        go_wp2_with fail
        go_ret
        exact ⟨by rw [HN2.out]; simp; try omega, hbw⟩
    · have hi3 : decide (k < l.length) = false := decide_eq_false hl1
      obtain rfl : k = l.length := by omega
      by_cases hlm : l.length = m.length
      · have HE := Lib.hid (show b = true from HB.out.trans (Rc.eq_yes hlm fun j hj hj' => HA.out j hj hj' hj))
        have hne3 : (l.length == m.length) = true := by simp [hlm]
        have hne4 : ((l.length : Int) == (m.length : Int)) = true := by simp [hlm]
        have HLM := Lib.hid hlm
        clear hlm
        go_wp2_with fail
        go_ret
        exact ⟨by rw [HE.out]; have hlm := HLM.out; simp [hlm], hbw⟩
      · have hne3 : (l.length == m.length) = false := by simp; omega
        have hne4 : ((l.length : Int) == (m.length : Int)) = false := by simp; omega
        have HN2 := Lib.hid (HB.out.trans (decide_eq_false (fun e => hlm (by rw [e]))))
        go_wp2_with fail
        go_ret
        exact ⟨by rw [HN2.out]; simp; try omega, hbw⟩
end Go.Proofs.Ytojaagnfjenhoaa
namespace Rc
instance : DecidableEq Rec := fun a b =>
  if h : a.lsn = b.lsn ∧ a.prev = b.prev ∧ a.txn = b.txn ∧ a.kind = b.kind ∧ a.page = b.page ∧ a.next = b.next ∧ a.num = b.num ∧ a.op = b.op ∧ a.how = b.how ∧ a.root = b.root ∧ a.e = b.e ∧ a.txns = b.txns ∧ a.dirty = b.dirty then
    .isTrue (by
      obtain ⟨a1, a2, a3, a4, a5, a6, a7, a8, a9, a10, a11, a12, a13⟩ := a
      obtain ⟨b1, b2, b3, b4, b5, b6, b7, b8, b9, b10, b11, b12, b13⟩ := b
      simp only at h
      obtain ⟨rfl, rfl, rfl, rfl, rfl, rfl, rfl, rfl, rfl, rfl, rfl, rfl, rfl⟩ := h
      rfl)
  else .isFalse (fun e => h (by subst e; exact ⟨rfl, rfl, rfl, rfl, rfl, rfl, rfl, rfl, rfl, rfl, rfl, rfl, rfl⟩))
end Rc
namespace Go.Proofs.Ytojaagnfjenhoaa
open Go.RowKit
theorem new21 (w : World) (o1 o2 : Obj) : ((w.alloc o1).alloc o2).heap[w.heap.size]? = some o1 := by
  rw [Below.heap_alloc _ _ _ (by simp)]; exact heap_alloc_new w o1
/-- A record with its lists, in memory. -/
structure RecR (w : World) (r : Rc.Rec) (A : Option Addr) (c : Nat) (B : Option Addr) (d : Nat) : Prop where
  txns : TxR w A c r.txns
  dirty : DiR w B d r.dirty
  small : r.txns.length ≤ 140737488355328 ∧ r.dirty.length ≤ 140737488355328
theorem RecR.below {w w' : World} {r : Rc.Rec} {A : Option Addr} {c : Nat} {B : Option Addr} {d : Nat} (h : RecR w r A c B d) (hb : Below w.heap.size w w') : RecR w' r A c B d := ⟨h.txns.below hb, h.dirty.below hb, h.small⟩
end Go.Proofs.Ytojaagnfjenhoaa
/- The walks over the reference of records: Same. -/
namespace Go.Proofs.Ytojaagnfjenhoaa
open Go.RowKit

set_option maxRecDepth 100000 in
set_option maxHeartbeats 8000000 in
theorem rsame_any (r s : Rc.Rec) (A A' B B' : Option Addr) (c c' d d' : Nat) (w : World) (hr : RecR w r A c B d) (hs : RecR w s A' c' B' d') :
    Calls Try.prog 16 #[recV r (.slice A r.txns.length c) (.slice B r.dirty.length d), recV s (.slice A' s.txns.length c') (.slice B' s.dirty.length d')] w fun e w' => e = .returned (.bool (decide (r = s))) ∧ Below w.heap.size w w' := by
  have HT := Lib.hid (fun W hb => rsame_txn r.txns s.txns hr.small.1 hs.small.1 A A' c c' W (hr.txns.below hb) (hs.txns.below hb))
  have HD := Lib.hid (fun W hb => rsame_dirty r.dirty s.dirty hr.small.2 hs.small.2 B B' d d' W (hr.dirty.below hb) (hs.dirty.below hb))
  have ht1 := hr.small.1
  have ht2 := hs.small.1
  have hd1 := hr.small.2
  have hd2 := hs.small.2
  have HO := Lib.hid (fun W => op_equal r.op s.op W)
  have HK := Lib.hid (fun W => key_equal r.e s.e W)
  clear hr hs
  obtain ⟨rls, rpr, rtx, rki, rpa, rne, rnu, rop, rho, rro, rek, rts, rds⟩ := r
  obtain ⟨sls, spr, stx, ski, spa, sne, snu, sop, sho, sro, sek, sts, sds⟩ := s
  simp only at HT HD HO HK ht1 ht2 hd1 hd2 ⊢
  by_cases hls : rls = sls
  rotate_left
  · rw [decide_eq_false (fun e => hls (congrArg Rc.Rec.lsn e))]
    have nls : (rls == sls) = false := by simp [hls]
    have mls : (rls != sls) = true := by simp [hls]
    clear hls
    obtain ⟨rk, rs, rx, ry⟩ := rop
    obtain ⟨sk, ss, sx, sy⟩ := sop
    obtain ⟨rek1, rek2, rek3⟩ := rek
    obtain ⟨sek1, sek2, sek3⟩ := sek
    go_enter Try.func16, Try.ntmps16
    go_wp2_with fail
    go_ret
    exact ⟨by simp, pastAlloc (allocB _ _)⟩
  subst hls
  by_cases hpr : rpr = spr
  rotate_left
  · rw [decide_eq_false (fun e => hpr (congrArg Rc.Rec.prev e))]
    have npr : (rpr == spr) = false := by simp [hpr]
    have mpr : (rpr != spr) = true := by simp [hpr]
    clear hpr
    obtain ⟨rk, rs, rx, ry⟩ := rop
    obtain ⟨sk, ss, sx, sy⟩ := sop
    obtain ⟨rek1, rek2, rek3⟩ := rek
    obtain ⟨sek1, sek2, sek3⟩ := sek
    go_enter Try.func16, Try.ntmps16
    go_wp2_with fail
    go_ret
    exact ⟨by simp, pastAlloc (allocB _ _)⟩
  subst hpr
  by_cases htx : rtx = stx
  rotate_left
  · rw [decide_eq_false (fun e => htx (congrArg Rc.Rec.txn e))]
    have ntx : (rtx == stx) = false := by simp [htx]
    have mtx : (rtx != stx) = true := by simp [htx]
    clear htx
    obtain ⟨rk, rs, rx, ry⟩ := rop
    obtain ⟨sk, ss, sx, sy⟩ := sop
    obtain ⟨rek1, rek2, rek3⟩ := rek
    obtain ⟨sek1, sek2, sek3⟩ := sek
    go_enter Try.func16, Try.ntmps16
    go_wp2_with fail
    go_ret
    exact ⟨by simp, pastAlloc (allocB _ _)⟩
  subst htx
  by_cases hki : rki = ski
  rotate_left
  · rw [decide_eq_false (fun e => hki (congrArg Rc.Rec.kind e))]
    have nki : (rki == ski) = false := by simp [hki]
    have mki : (rki != ski) = true := by simp [hki]
    clear hki
    obtain ⟨rk, rs, rx, ry⟩ := rop
    obtain ⟨sk, ss, sx, sy⟩ := sop
    obtain ⟨rek1, rek2, rek3⟩ := rek
    obtain ⟨sek1, sek2, sek3⟩ := sek
    go_enter Try.func16, Try.ntmps16
    go_wp2_with fail
    go_ret
    exact ⟨by simp, pastAlloc (allocB _ _)⟩
  subst hki
  by_cases hpa : rpa = spa
  rotate_left
  · rw [decide_eq_false (fun e => hpa (congrArg Rc.Rec.page e))]
    have npa : (rpa == spa) = false := by simp [hpa]
    have mpa : (rpa != spa) = true := by simp [hpa]
    clear hpa
    obtain ⟨rk, rs, rx, ry⟩ := rop
    obtain ⟨sk, ss, sx, sy⟩ := sop
    obtain ⟨rek1, rek2, rek3⟩ := rek
    obtain ⟨sek1, sek2, sek3⟩ := sek
    go_enter Try.func16, Try.ntmps16
    go_wp2_with fail
    go_ret
    exact ⟨by simp, pastAlloc (allocB _ _)⟩
  subst hpa
  by_cases hne : rne = sne
  rotate_left
  · rw [decide_eq_false (fun e => hne (congrArg Rc.Rec.next e))]
    have nne : (rne == sne) = false := by simp [hne]
    have mne : (rne != sne) = true := by simp [hne]
    clear hne
    obtain ⟨rk, rs, rx, ry⟩ := rop
    obtain ⟨sk, ss, sx, sy⟩ := sop
    obtain ⟨rek1, rek2, rek3⟩ := rek
    obtain ⟨sek1, sek2, sek3⟩ := sek
    go_enter Try.func16, Try.ntmps16
    go_wp2_with fail
    go_ret
    exact ⟨by simp, pastAlloc (allocB _ _)⟩
  subst hne
  by_cases hnu : rnu = snu
  rotate_left
  · rw [decide_eq_false (fun e => hnu (congrArg Rc.Rec.num e))]
    have nnu : (rnu == snu) = false := by simp [hnu]
    have mnu : (rnu != snu) = true := by simp [hnu]
    clear hnu
    obtain ⟨rk, rs, rx, ry⟩ := rop
    obtain ⟨sk, ss, sx, sy⟩ := sop
    obtain ⟨rek1, rek2, rek3⟩ := rek
    obtain ⟨sek1, sek2, sek3⟩ := sek
    go_enter Try.func16, Try.ntmps16
    go_wp2_with fail
    go_ret
    exact ⟨by simp, pastAlloc (allocB _ _)⟩
  subst hnu
  cases hop : decide (rop = sop) with
  | false =>
    rw [decide_eq_false (fun e => of_decide_eq_false hop (congrArg Rc.Rec.op e))]
    have eop := HO.out
    rw [hop] at eop
    clear hop
    obtain ⟨rk, rs, rx, ry⟩ := rop
    obtain ⟨sk, ss, sx, sy⟩ := sop
    obtain ⟨rek1, rek2, rek3⟩ := rek
    obtain ⟨sek1, sek2, sek3⟩ := sek
    go_enter Try.func16, Try.ntmps16
    go_wp2_with fail
    go_ret
    exact ⟨by simp, pastAlloc (allocB _ _)⟩
  | true =>
  have eop := HO.out
  rw [hop] at eop
  have Dop := Lib.hid (of_decide_eq_true hop)
  clear hop HO
  by_cases hho : rho = sho
  rotate_left
  · rw [decide_eq_false (fun e => hho (congrArg Rc.Rec.how e))]
    have nho : (rho == sho) = false := by simp [hho]
    have mho : (rho != sho) = true := by simp [hho]
    clear hho
    obtain ⟨rk, rs, rx, ry⟩ := rop
    obtain ⟨sk, ss, sx, sy⟩ := sop
    obtain ⟨rek1, rek2, rek3⟩ := rek
    obtain ⟨sek1, sek2, sek3⟩ := sek
    go_enter Try.func16, Try.ntmps16
    go_wp2_with fail
    go_ret
    exact ⟨by simp, pastAlloc (allocB _ _)⟩
  subst hho
  by_cases hro : rro = sro
  rotate_left
  · rw [decide_eq_false (fun e => hro (congrArg Rc.Rec.root e))]
    have nro : (rro == sro) = false := by simp [hro]
    have mro : (rro != sro) = true := by simp [hro]
    clear hro
    obtain ⟨rk, rs, rx, ry⟩ := rop
    obtain ⟨sk, ss, sx, sy⟩ := sop
    obtain ⟨rek1, rek2, rek3⟩ := rek
    obtain ⟨sek1, sek2, sek3⟩ := sek
    go_enter Try.func16, Try.ntmps16
    go_wp2_with fail
    go_ret
    exact ⟨by simp, pastAlloc (allocB _ _)⟩
  subst hro
  cases hek : decide (rek = sek) with
  | false =>
    rw [decide_eq_false (fun e => of_decide_eq_false hek (congrArg Rc.Rec.e e))]
    have eek := HK.out
    rw [hek] at eek
    clear hek
    obtain ⟨rk, rs, rx, ry⟩ := rop
    obtain ⟨sk, ss, sx, sy⟩ := sop
    obtain ⟨rek1, rek2, rek3⟩ := rek
    obtain ⟨sek1, sek2, sek3⟩ := sek
    go_enter Try.func16, Try.ntmps16
    go_wp2_with fail
    go_ret
    exact ⟨by simp, pastAlloc (allocB _ _)⟩
  | true =>
  have eek := HK.out
  rw [hek] at eek
  have Dek := Lib.hid (of_decide_eq_true hek)
  clear hek HK
  cases hts' : decide (rts = sts) with
  | false =>
    have Dts := Lib.hid hts'
    rw [decide_eq_false (fun e => of_decide_eq_false hts' (congrArg Rc.Rec.txns e))]
    clear hts'
    obtain ⟨rk, rs, rx, ry⟩ := rop
    obtain ⟨sk, ss, sx, sy⟩ := sop
    obtain ⟨rek1, rek2, rek3⟩ := rek
    obtain ⟨sek1, sek2, sek3⟩ := sek
    go_enter Try.func16, Try.ntmps16
    go_wp2_with (first | (go_at_call 29; (with_reducible refine (HT.out _ ?_).mono ?_); (exact pastAlloc (allocB _ _)); rintro e w2 ⟨rfl, hb2⟩; have hx1 := blkOld (new21 _ _ _) hb2; have hx2 := blkOld (new2 _ _ _) hb2; have q1 := blkCell hx1 17; have q2 := blkCell hx2 17; clear hx1 hx2; simp at q1 q2; rw [Dts.out]))
    go_ret
    exact ⟨by simp, joinB (pastAlloc (allocB _ _)) hb2⟩
  | true =>
  have Bts := Lib.hid hts'
  have Dts := Lib.hid (of_decide_eq_true hts')
  clear hts'
  cases hds' : decide (rds = sds) with
  | false =>
    have Dds := Lib.hid hds'
    rw [decide_eq_false (fun e => of_decide_eq_false hds' (congrArg Rc.Rec.dirty e))]
    clear hds'
    obtain ⟨rk, rs, rx, ry⟩ := rop
    obtain ⟨sk, ss, sx, sy⟩ := sop
    obtain ⟨rek1, rek2, rek3⟩ := rek
    obtain ⟨sek1, sek2, sek3⟩ := sek
    go_enter Try.func16, Try.ntmps16
    go_wp2_with (first | (go_at_call 29; (with_reducible refine (HT.out _ ?_).mono ?_); (exact pastAlloc (allocB _ _)); rintro e w2 ⟨rfl, hb2⟩; have hx1 := blkOld (new21 _ _ _) hb2; have hx2 := blkOld (new2 _ _ _) hb2; have q1 := blkCell hx1 17; have q2 := blkCell hx2 17; clear hx1 hx2; simp at q1 q2; rw [Bts.out]) | (go_at_call 30; (with_reducible refine (HD.out _ ?_).mono ?_); (exact joinB (pastAlloc (allocB _ _)) hb2); rintro e w3 ⟨rfl, hb3⟩; rw [Dds.out]))
    go_ret
    exact ⟨by simp, joinB (joinB (pastAlloc (allocB _ _)) hb2) hb3⟩
  | true =>
  have Bds := Lib.hid hds'
  have Dds := Lib.hid (of_decide_eq_true hds')
  clear hds'
  rw [decide_eq_true (by rw [Dop.out, Dek.out, Dts.out, Dds.out])]
  clear Dop Dek Dts Dds
  obtain ⟨rk, rs, rx, ry⟩ := rop
  obtain ⟨sk, ss, sx, sy⟩ := sop
  obtain ⟨rek1, rek2, rek3⟩ := rek
  obtain ⟨sek1, sek2, sek3⟩ := sek
  go_enter Try.func16, Try.ntmps16
  go_wp2_with (first | (go_at_call 29; (with_reducible refine (HT.out _ ?_).mono ?_); (exact pastAlloc (allocB _ _)); rintro e w2 ⟨rfl, hb2⟩; have hx1 := blkOld (new21 _ _ _) hb2; have hx2 := blkOld (new2 _ _ _) hb2; have q1 := blkCell hx1 17; have q2 := blkCell hx2 17; clear hx1 hx2; simp at q1 q2; rw [Bts.out]) | (go_at_call 30; (with_reducible refine (HD.out _ ?_).mono ?_); (exact joinB (pastAlloc (allocB _ _)) hb2); rintro e w3 ⟨rfl, hb3⟩; rw [Bds.out]))
  go_ret
  exact ⟨by simp, joinB (joinB (pastAlloc (allocB _ _)) hb2) hb3⟩
end Go.Proofs.Ytojaagnfjenhoaa
/- The plain law of the log: records one behind the other, read again. -/
namespace Rc
/-- A number of no bytes. -/
theorem p_zero_len (n : Int) : (p n 0) = [] := rfl
theorem t_len (s : ByteArray) : (t s).length = 2 + s.size := by
  unfold t; rw [List.length_append, p_length]; simp
theorem opB_len {o : Op} (h : opR o) : (opB o).length ≤ 1031 := by
  obtain ⟨_, _, _, h4, h5⟩ := h
  unfold opB
  simp only [List.length_append, p_length, t_len]
  omega
theorem flat_len {α : Type} (f : α → List UInt8) (k : Nat) (hf : ∀ x, (f x).length = k) : ∀ l : List α, (l.flatMap f).length = l.length * k := by
  intro l
  induction l with
  | nil => simp
  | cons x l ih => rw [List.flatMap_cons, List.length_append, hf, ih, List.length_cons, Nat.add_mul]; omega
theorem txnB_len (x : TxnAt) : (txnB x).length = 19 := by
  unfold txnB; simp only [List.length_append, p_length]
theorem dirtyB_len (x : DirtyAt) : (dirtyB x).length = 9 := by
  unfold dirtyB; simp only [List.length_append, p_length]
theorem headB_len (r : Rec) : (headB r).length = 19 := by
  unfold headB; simp only [List.length_append, p_length]
theorem listsB_len {r : Rec} (h : listsR r) : (listsB r).length ≤ 37010 := by
  obtain ⟨h1, h2, _⟩ := h
  unfold listsB
  simp only [List.length_append, p_length, flat_len txnB 19 txnB_len, flat_len dirtyB 9 dirtyB_len]
  omega
/-- A record's bytes are few. -/
theorem bodyB_len {r : Rec} (h : Right r) : 19 ≤ (bodyB r).length ∧ (bodyB r).length ≤ 40000 := by
  unfold bodyB
  rw [List.length_append, headB_len]
  refine ⟨by omega, ?_⟩
  cases h with
  | small kind lsn prev txn hk h1 h2 h3 =>
    have hk2 : restB (bare kind lsn prev txn) = [] := by
      unfold restB bare
      simp only
      rw [if_neg (by omega), if_neg (by omega), if_neg (by omega), if_neg (by omega), if_neg (by omega)]
    rw [hk2]; simp
  | change lsn prev txn page op how root e h1 h2 h3 h4 h5 h6 =>
    rw [restB_2 rfl]
    have ho := opB_len h5
    have ht : (treeB ⟨lsn, prev, txn, 2, page, 0, 0, op, how, root, e, [], []⟩).length ≤ 200 := by
      unfold treeB
      rcases h6 with ⟨h7, _⟩ | ⟨h7, h8, h9, h10, h11⟩
      · simp only at h7; subst h7; simp
      · simp only at h7 h11
        rw [if_neg (show ¬ how = 1 by omega)]
        simp only [List.length_append, p_length, t_len]
        omega
    simp only [List.length_append, p_length]
    omega
  | clr lsn prev txn page op next h1 h2 h3 h4 h5 h6 =>
    rw [restB_3 rfl]
    have ho := opB_len h5
    simp only [List.length_append, p_length]
    omega
  | nest lsn prev txn next h1 h2 h3 h6 =>
    rw [restB_4 rfl]
    simp only [p_length]
    omega
  | image lsn prev txn page op h1 h2 h3 h4 h5 =>
    rw [restB_8 rfl]
    have ho := opB_len h5
    simp only [List.length_append, p_length]
    omega
  | check lsn prev txn n ts ds h1 h2 h3 h4 h5 =>
    rw [restB_9 rfl]
    have := listsB_len h5
    omega
theorem not_right_zero {r : Rec} (h : r.kind = 0) : ¬ Right r := by
  intro hr
  cases hr with
  | small kind lsn prev txn hk h1 h2 h3 => have : kind = 0 := h; omega
  | change lsn prev txn page op how root e h1 h2 h3 h4 h5 h6 => exact absurd (show (2 : Int) = 0 from h) (by omega)
  | clr lsn prev txn page op next h1 h2 h3 h4 h5 h6 => exact absurd (show (3 : Int) = 0 from h) (by omega)
  | nest lsn prev txn next h1 h2 h3 h6 => exact absurd (show (4 : Int) = 0 from h) (by omega)
  | image lsn prev txn page op h1 h2 h3 h4 h5 => exact absurd (show (8 : Int) = 0 from h) (by omega)
  | check lsn prev txn n ts ds h1 h2 h3 h4 h5 => exact absurd (show (9 : Int) = 0 from h) (by omega)
end Rc
namespace Lg
open Rc
/-- A record as it is written. -/
def putR (r : Rec) : List UInt8 := Oct.putL (bodyB r).length 4 ++ (Oct.putL (Oct.sumN (bodyB r)) 4 ++ bodyB r)
theorem putR_len (r : Rec) : (putR r).length = 8 + (bodyB r).length := by
  unfold putR; simp only [List.length_append, Oct.putL_length]; omega
/-- The bytes that a length tells. -/
def bodyAt (s : List UInt8) (a : Nat) : List UInt8 := (s.drop (a + 8)).take (Oct.getN s a 4)
/-- Is a record there? -/
def Is (s : List UInt8) (a : Nat) : Prop :=
  a + 8 + Oct.getN s a 4 ≤ s.length ∧ Oct.getN s (a + 4) 4 = Oct.sumN (bodyAt s a) ∧ Right (readM true (bodyAt s a)) ∧ bodyB (readM true (bodyAt s a)) = bodyAt s a
open Classical in
/-- The record at a place, and the place behind it. -/
noncomputable def getO (s : List UInt8) (a : Nat) : Option (Rec × Nat) := if Is s a then some (readM true (bodyAt s a), a + 8 + Oct.getN s a 4) else none
theorem getO_yes {s : List UInt8} {a : Nat} (h : Is s a) : getO s a = some (readM true (bodyAt s a), a + 8 + Oct.getN s a 4) := if_pos h
theorem getO_no {s : List UInt8} {a : Nat} (h : ¬ Is s a) : getO s a = none := if_neg h
theorem drop_app (x y : List UInt8) (k : Nat) : (x ++ y).drop (x.length + k) = y.drop k := by
  rw [← List.drop_drop, List.drop_left]
theorem getN_app2 (x y : List UInt8) (k n : Nat) : Oct.getN (x ++ y) (x.length + k) n = Oct.getN y k n := by
  unfold Oct.getN; rw [drop_app]
theorem getN_put (u k : Nat) (y : List UInt8) (h : u < 256 ^ k) : Oct.getN (Oct.putL u k ++ y) 0 k = u := by
  unfold Oct.getN
  rw [List.drop_zero, List.take_left' (Oct.putL_length u k), Oct.getL_putL, Nat.mod_eq_of_lt h]
theorem is_put (x y : List UInt8) {r : Rec} (h : Right r) : Is (x ++ (putR r ++ y)) x.length ∧ bodyAt (x ++ (putR r ++ y)) x.length = bodyB r ∧ Oct.getN (x ++ (putR r ++ y)) x.length 4 = (bodyB r).length := by
  have hlen := bodyB_len h
  have hg : Oct.getN (x ++ (putR r ++ y)) x.length 4 = (bodyB r).length := by
    have h1 := getN_app2 x (putR r ++ y) 0 4
    rw [Nat.add_zero] at h1
    rw [h1]
    unfold putR
    rw [List.append_assoc]
    exact getN_put _ _ _ (by show _ < 4294967296; omega)
  have hs : Oct.getN (x ++ (putR r ++ y)) (x.length + 4) 4 = Oct.sumN (bodyB r) := by
    rw [getN_app2]
    unfold putR
    have h2 := getN_app2 (Oct.putL (bodyB r).length 4) (Oct.putL (Oct.sumN (bodyB r)) 4 ++ (bodyB r ++ y)) 0 4
    rw [Oct.putL_length] at h2
    simp only [List.append_assoc]
    rw [h2]
    exact getN_put _ _ _ (Oct.sumN_lt _)
  have hb : bodyAt (x ++ (putR r ++ y)) x.length = bodyB r := by
    unfold bodyAt
    rw [hg, drop_app]
    unfold putR
    have e : (Oct.putL (bodyB r).length 4 ++ (Oct.putL (Oct.sumN (bodyB r)) 4 ++ bodyB r) ++ y) = (Oct.putL (bodyB r).length 4 ++ Oct.putL (Oct.sumN (bodyB r)) 4) ++ (bodyB r ++ y) := by simp [List.append_assoc]
    rw [e, List.drop_left' (by rw [List.length_append, Oct.putL_length, Oct.putL_length]), List.take_left]
  refine ⟨⟨?_, ?_, ?_, ?_⟩, hb, hg⟩
  · rw [hg]; simp only [List.length_append, putR_len]; omega
  · rw [hs, hb]
  · rw [hb, read_body true h]; exact h
  · rw [hb, read_body true h]
theorem getO_put (x y : List UInt8) {r : Rec} (h : Right r) : getO (x ++ (putR r ++ y)) x.length = some (r, x.length + (putR r).length) := by
  obtain ⟨h1, h2, h3⟩ := is_put x y h
  rw [getO_yes h1, h2, h3, read_body true h, putR_len, Nat.add_assoc]
theorem take_join (s : List UInt8) (a n : Nat) : (s.drop a).take n ++ s.drop (a + n) = s.drop a := by
  rw [← List.drop_drop, List.take_append_drop]
/-- Behind the place where a record is, it is whole. -/
theorem is_bytes {s : List UInt8} {a : Nat} (h : Is s a) : s = s.take a ++ (putR (readM true (bodyAt s a)) ++ s.drop (a + 8 + Oct.getN s a 4)) := by
  obtain ⟨h1, h2, h3, h4⟩ := h
  have hbl : (bodyAt s a).length = Oct.getN s a 4 := by unfold bodyAt; rw [List.length_take, List.length_drop]; omega
  have e1 : Oct.putL (bodyAt s a).length 4 = (s.drop a).take 4 := by
    rw [hbl]; unfold Oct.getN
    exact Oct.putL_getL 4 _ (by rw [List.length_take, List.length_drop]; omega)
  have e2 : Oct.putL (Oct.sumN (bodyAt s a)) 4 = (s.drop (a + 4)).take 4 := by
    rw [← h2]; unfold Oct.getN
    exact Oct.putL_getL 4 _ (by rw [List.length_take, List.length_drop]; omega)
  unfold putR
  rw [h4, e1, e2]
  have e3 : bodyAt s a ++ s.drop (a + 8 + Oct.getN s a 4) = s.drop (a + 8) := take_join s (a + 8) _
  have e4 : (s.drop (a + 4)).take 4 ++ s.drop (a + 8) = s.drop (a + 4) := take_join s (a + 4) 4
  have e5 : (s.drop a).take 4 ++ s.drop (a + 4) = s.drop a := take_join s a 4
  rw [List.append_assoc, List.append_assoc, e3, e4, e5, List.take_append_drop]
/-- Zeros, or too few bytes, are no record. -/
theorem is_zero {s : List UInt8} {a : Nat} (h : Oct.getN s a 4 = 0) : ¬ Is s a := by
  rintro ⟨_, _, h3, _⟩
  have hb : bodyAt s a = [] := by unfold bodyAt; rw [h, List.take_zero]
  rw [hb] at h3
  exact not_right_zero (by rfl) h3
theorem is_short {s : List UInt8} {a : Nat} (h : s.length < a + 8) : ¬ Is s a := by
  rintro ⟨h1, _⟩; omega

/-! ### Opening -/
/-- The records from a place on, and the place behind them. -/
noncomputable def openL (s : List UInt8) : Nat → Nat → List Rec × Nat
  | 0, a => ([], a)
  | f + 1, a => match getO s a with
    | none => ([], a)
    | some (r, b) => if r.lsn = (a : Int) + 1 then (r :: (openL s f b).1, (openL s f b).2) else ([], a)
/-- Records one behind the other, the first one at a place. -/
def Row (a : Nat) : List Rec → Prop
  | [] => True
  | r :: l => Right r ∧ r.lsn = (a : Int) + 1 ∧ Row (a + (putR r).length) l
def bytes (l : List Rec) : List UInt8 := l.flatMap putR
theorem bytes_cons (r : Rec) (l : List Rec) : bytes (r :: l) = putR r ++ bytes l := rfl
theorem bytes_append (l m : List Rec) : bytes (l ++ m) = bytes l ++ bytes m := List.flatMap_append
theorem row_append {a : Nat} {l m : List Rec} : Row a (l ++ m) ↔ Row a l ∧ Row (a + (bytes l).length) m := by
  induction l generalizing a with
  | nil => simp [Row, bytes]
  | cons r l ih =>
    show (Right r ∧ r.lsn = (a : Int) + 1 ∧ Row (a + (putR r).length) (l ++ m)) ↔ (Right r ∧ r.lsn = (a : Int) + 1 ∧ Row (a + (putR r).length) l) ∧ _
    rw [ih, bytes_cons, List.length_append, Nat.add_assoc]
    constructor
    · rintro ⟨h1, h2, h3, h4⟩; exact ⟨⟨h1, h2, h3⟩, h4⟩
    · rintro ⟨⟨h1, h2, h3⟩, h4⟩; exact ⟨h1, h2, h3, h4⟩
/-- A row that ends where no record of that place is, is opened as it is. -/
theorem openL_row (l : List Rec) : ∀ (x y : List UInt8) (f : Nat), Row x.length l → l.length < f → (∀ r b, getO (x ++ (bytes l ++ y)) (x.length + (bytes l).length) = some (r, b) → r.lsn ≠ ((x.length + (bytes l).length : Nat) : Int) + 1) →
    openL (x ++ (bytes l ++ y)) f x.length = (l, x.length + (bytes l).length) := by
  induction l with
  | nil =>
    intro x y f hrow hf hend
    obtain ⟨f, rfl⟩ : ∃ g, f = g + 1 := ⟨f - 1, by simp at hf; omega⟩
    have hb0 : (bytes []).length = 0 := rfl
    rw [hb0, Nat.add_zero] at hend ⊢
    unfold openL
    cases hg : getO (x ++ (bytes [] ++ y)) x.length with
    | none => rfl
    | some v =>
      obtain ⟨r, b⟩ := v
      simp only
      rw [if_neg (hend r b hg)]
      rfl
  | cons r l ih =>
    intro x y f hrow hf hend
    obtain ⟨h1, h2, h3⟩ := hrow
    obtain ⟨f, rfl⟩ : ∃ g, f = g + 1 := ⟨f - 1, by simp at hf; omega⟩
    have e : x ++ (bytes (r :: l) ++ y) = (x ++ putR r) ++ (bytes l ++ y) := by rw [bytes_cons]; simp [List.append_assoc]
    have el : x.length + (bytes (r :: l)).length = (x ++ putR r).length + (bytes l).length := by rw [bytes_cons, List.length_append, List.length_append]; omega
    have hg := getO_put x (bytes l ++ y) h1
    rw [e, el] at hend
    have := ih (x ++ putR r) y f (by rw [List.length_append]; exact h3) (by simp at hf; omega) hend
    rw [e, el]
    unfold openL
    rw [← List.append_assoc] at hg
    rw [hg]
    simp only
    rw [if_pos h2, ← List.length_append, this]
end Lg
/- The plain law of the log: wherever the power goes while it is forced, what is opened is the old row or the new one. -/
namespace Lg
open Rc
/-- Bytes that read as zeros from a place on, so many of them, as far as there are any. -/
def Zeros (s : List UInt8) (a k : Nat) : Prop := ∀ i, a ≤ i → i < a + k → i < s.length → s[i]? = some 0
theorem getL_zero : ∀ l : List UInt8, (∀ i, i < l.length → l[i]? = some 0) → Oct.getL l = 0 := by
  intro l
  induction l with
  | nil => intro _; rfl
  | cons c l ih =>
    intro h
    have h0 := h 0 (by simp)
    simp only [List.getElem?_cons_zero, Option.some.injEq] at h0
    have h1 := ih (fun i hi => by have := h (i + 1) (by simpa using hi); simpa using this)
    subst h0
    unfold Oct.getL at h1 ⊢
    simpa using h1
theorem getN_zero {s : List UInt8} {a : Nat} (h : Zeros s a 4) : Oct.getN s a 4 = 0 := by
  unfold Oct.getN
  refine getL_zero _ (fun i hi => ?_)
  rw [List.length_take, List.length_drop] at hi
  rw [List.getElem?_take, if_pos (by omega), List.getElem?_drop]
  exact h _ (by omega) (by omega) (by omega)
/-- The row l1 lies in the bytes s, with zeros behind. -/
structure Lies (s : List UInt8) (l : List Rec) : Prop where
  row : Row 0 l
  pre : s.take (bytes l).length = bytes l
  room : (bytes l).length ≤ s.length
  zero : Zeros s (bytes l).length 128
theorem Lies.not {s : List UInt8} {l : List Rec} (h : Lies s l) : ¬ Is s (bytes l).length :=
  is_zero (getN_zero fun i h1 h2 h3 => h.zero i h1 (by omega) h3)
theorem Lies.split {s : List UInt8} {l : List Rec} (h : Lies s l) : s = [] ++ (bytes l ++ s.drop (bytes l).length) := by
  rw [List.nil_append]
  conv => lhs; rw [← List.take_append_drop (bytes l).length s, h.pre]
/-- A row whose end no record follows is opened. -/
theorem open_row {s : List UInt8} {l : List Rec} (hrow : Row 0 l) (hpre : s.take (bytes l).length = bytes l) (hno : ¬ Is s (bytes l).length) {f : Nat} (hf : l.length < f) : openL s f 0 = (l, (bytes l).length) := by
  have hs : s = [] ++ (bytes l ++ s.drop (bytes l).length) := by
    rw [List.nil_append]
    conv => lhs; rw [← List.take_append_drop (bytes l).length s, hpre]
  have := openL_row l [] (s.drop (bytes l).length) f hrow hf (fun r b hg => by
    rw [← hs] at hg
    simp only [List.length_nil, Nat.zero_add] at hg
    rw [getO_no hno] at hg
    cases hg)
  rw [← hs] at this
  simpa using this
theorem Lies.opens {s : List UInt8} {l : List Rec} (h : Lies s l) {f : Nat} (hf : l.length < f) : openL s f 0 = (l, (bytes l).length) := open_row h.row h.pre h.not hf

theorem putL_succ (u k : Nat) : Oct.putL u (k + 1) = UInt8.ofNat (u / 256 ^ k % 256) :: Oct.putL u k := by
  refine List.ext_getElem? fun i => ?_
  by_cases hi : i < k + 1
  · rw [Oct.putL_get _ _ _ hi]
    cases i with
    | zero => simp
    | succ i =>
      rw [List.getElem?_cons_succ, Oct.putL_get _ _ _ (by omega)]
      rw [show k + 1 - 1 - (i + 1) = k - 1 - i by omega]
  · rw [List.getElem?_eq_none (by rw [Oct.putL_length]; omega), List.getElem?_eq_none (by rw [List.length_cons, Oct.putL_length]; omega)]
theorem putL_small {u k : Nat} (h : u < 256 ^ k) : Oct.putL u (k + 1) = 0 :: Oct.putL u k := by
  rw [putL_succ, Nat.div_eq_of_lt h]; rfl
/-- What is there while the sectors are written from the last one to the first: the old bytes up to q, the new ones behind. -/
def mix (s n : List UInt8) (q : Nat) : List UInt8 := s.take q ++ n.drop q
theorem mix_length {s n : List UInt8} {q : Nat} (h : s.length = n.length) : (mix s n q).length = n.length := by
  unfold mix; rw [List.length_append, List.length_take, List.length_drop]; omega
theorem mix_get {s n : List UInt8} {q : Nat} (h : s.length = n.length) (i : Nat) : (mix s n q)[i]? = if i < q then s[i]? else n[i]? := by
  unfold mix
  by_cases hq : q ≤ s.length
  · have hl : (s.take q).length = q := by rw [List.length_take]; omega
    by_cases hi : i < q
    · rw [if_pos hi, List.getElem?_append_left (by omega), List.getElem?_take, if_pos hi]
    · rw [if_neg hi, List.getElem?_append_right (by omega), hl, List.getElem?_drop]
      congr 1; omega
  · rw [List.take_of_length_le (by omega), List.drop_of_length_le (by omega), List.append_nil]
    split
    · rfl
    · rw [List.getElem?_eq_none (by omega), List.getElem?_eq_none (by omega)]
theorem mix_eq {s n : List UInt8} {q : Nat} (h : s.length = n.length) (he : ∀ i, i < q → s[i]? = n[i]?) : mix s n q = n := by
  refine List.ext_getElem? fun i => ?_
  rw [mix_get h]
  split
  · rename_i hi; exact he i hi
  · rfl
/-- Wherever the power goes: the old row or the new one. -/
theorem mix_opens {s n : List UInt8} {l1 l2 : List Rec} (hlen : s.length = n.length) (hs : Lies s l1) (hn : Lies n (l1 ++ l2)) (h2 : l2 ≠ []) (q : Nat) {f : Nat} (hf : (l1 ++ l2).length < f) :
    openL (mix s n q) f 0 = (l1, (bytes l1).length) ∨ mix s n q = n := by
  obtain ⟨r, l3, rfl⟩ : ∃ r l3, l2 = r :: l3 := by cases l2 with
    | nil => exact absurd rfl h2
    | cons r l3 => exact ⟨r, l3, rfl⟩
  obtain ⟨a, ha⟩ : ∃ a, a = (bytes l1).length := ⟨_, rfl⟩
  have hna : n.take a = bytes l1 := by
    have h3 := hn.pre
    rw [bytes_append] at h3
    have h4 := congrArg (List.take a) h3
    rw [List.take_take, List.take_left' ha.symm, List.length_append, Nat.min_eq_left (by omega)] at h4
    exact h4
  have hsa : s.take a = bytes l1 := by rw [ha]; exact hs.pre
  have hagree : ∀ i, i < a → s[i]? = n[i]? := fun i hi => by
    have h5 := congrArg (fun l : List UInt8 => l[i]?) (hsa.trans hna.symm)
    simp only [List.getElem?_take, if_pos hi] at h5
    exact h5
  by_cases hq : q ≤ a
  · exact .inr (mix_eq hlen fun i hi => hagree i (by omega))
  · have hr : Right r := by
      have := hn.row
      rw [row_append] at this
      exact this.2.1
    have hbl := bodyB_len hr
    have hroom := hn.room
    rw [bytes_append, bytes_cons, List.length_append, List.length_append, putR_len, ← ha] at hroom
    have hdrop : n.drop a = putR r ++ (bytes l3 ++ n.drop (bytes (l1 ++ r :: l3)).length) := by
      have h6 := hn.split
      rw [List.nil_append] at h6
      conv => lhs; rw [h6, bytes_append, bytes_cons]
      rw [List.append_assoc, List.drop_left' ha.symm, List.append_assoc, bytes_append, bytes_cons]
    by_cases hI : Is (mix s n q) a
    · by_cases hu : a + 4 ≤ q
      · exact absurd hI (is_zero (getN_zero fun i h3 h4 h5 => by
          rw [mix_length hlen] at h5
          rw [mix_get hlen, if_pos (by omega)]
          exact hs.zero i (by omega) (by omega) (by omega)))
      · -- one, two or three bytes of the length are old
        have hput : ∀ j, j < 4 → n[a + j]? = some (UInt8.ofNat ((bodyB r).length / 256 ^ (4 - 1 - j) % 256)) := fun j hj => by
          have h7 : (n.drop a)[j]? = n[a + j]? := List.getElem?_drop
          rw [← h7, hdrop]
          unfold putR
          rw [List.append_assoc, List.getElem?_append_left (by rw [Oct.putL_length]; exact hj), Oct.putL_get _ _ _ hj]
        have hz : ∀ j, a + j < q → s[a + j]? = some 0 := fun j hj => hs.zero (a + j) (by omega) (by omega) (by omega)
        have hn0 : n[a + 0]? = some 0 := by
          rw [hput 0 (by omega), Nat.div_eq_of_lt (by show (bodyB r).length < 16777216; omega)]; rfl
        have hn1 : n[a + 1]? = some 0 := by
          rw [hput 1 (by omega), Nat.div_eq_of_lt (by show (bodyB r).length < 65536; omega)]; rfl
        by_cases h3 : q = a + 3
        · by_cases h4 : (bodyB r).length < 256
          · refine .inr (mix_eq hlen fun i hi => ?_)
            by_cases hia : i < a
            · exact hagree i hia
            · have hn2 : n[a + 2]? = some 0 := by
                rw [hput 2 (by omega), Nat.div_eq_of_lt (by show (bodyB r).length < 256; omega)]; rfl
              obtain ⟨j, rfl⟩ : ∃ j, i = a + j := ⟨i - a, by omega⟩
              rw [hz j hi]
              obtain rfl | rfl | rfl : j = 0 ∨ j = 1 ∨ j = 2 := by omega
              · exact hn0.symm
              · exact hn1.symm
              · exact hn2.symm
          · exfalso
            have hM : (mix s n q).drop a = [0, 0, 0] ++ n.drop (a + 3) := by
              refine List.ext_getElem? fun i => ?_
              rw [List.getElem?_drop, mix_get hlen]
              by_cases hi : i < 3
              · rw [if_pos (by omega), hz i (by omega)]
                obtain rfl | rfl | rfl : i = 0 ∨ i = 1 ∨ i = 2 := by omega
                · rfl
                · rfl
                · rfl
              · rw [if_neg (by omega), List.getElem?_append_right (by simp; omega), List.getElem?_drop]
                congr 1; simp; omega
            have hlast : n[a + 3]? = some (UInt8.ofNat ((bodyB r).length % 256)) := by
              have := hput 3 (by omega)
              simpa using this
            have hg : Oct.getN (mix s n q) a 4 = (bodyB r).length % 256 := by
              have e1 : ((mix s n q).drop a).take 4 = [0, 0, 0, UInt8.ofNat ((bodyB r).length % 256)] := by
                refine List.ext_getElem? fun i => ?_
                rw [List.getElem?_take]
                by_cases hi : i < 4
                · rw [if_pos hi, hM]
                  obtain rfl | rfl | rfl | rfl : i = 0 ∨ i = 1 ∨ i = 2 ∨ i = 3 := by omega
                  · rfl
                  · rfl
                  · rfl
                  · rw [List.getElem?_append_right (by simp), List.getElem?_drop]
                    simpa using hlast
                · rw [if_neg hi, List.getElem?_eq_none (by simp; omega)]
              unfold Oct.getN
              rw [e1]
              simp [Oct.getL]
            obtain ⟨i1, i2, i3, i4⟩ := hI
            have hb : bodyAt (mix s n q) a = (bodyB r).take ((bodyB r).length % 256) := by
              unfold bodyAt
              rw [hg]
              have e2 : (mix s n q).drop (a + 8) = n.drop (a + 8) := by
                refine List.ext_getElem? fun i => ?_
                rw [List.getElem?_drop, List.getElem?_drop, mix_get hlen, if_neg (by omega)]
              rw [e2, ← List.drop_drop, hdrop]
              unfold putR
              rw [← List.append_assoc (Oct.putL (bodyB r).length 4), List.append_assoc, List.drop_left' (by rw [List.length_append, Oct.putL_length, Oct.putL_length]), List.take_append_of_le_length (Nat.mod_le _ _)]
            rw [hb] at i3 i4
            have hpf := body_prefix (l := (bodyB r).drop ((bodyB r).length % 256)) hr i3 (by rw [i4, List.take_append_drop])
            have hle := congrArg (fun x => (bodyB x).length) hpf
            simp only [i4, List.length_take] at hle
            omega
        · refine .inr (mix_eq hlen fun i hi => ?_)
          by_cases hia : i < a
          · exact hagree i hia
          · obtain ⟨j, rfl⟩ : ∃ j, i = a + j := ⟨i - a, by omega⟩
            rw [hz j hi]
            obtain rfl | rfl : j = 0 ∨ j = 1 := by omega
            · exact hn0.symm
            · exact hn1.symm
    · refine .inl ?_
      rw [ha] at hI
      refine open_row hs.row ?_ hI (by rw [List.length_append] at hf; omega)
      rw [← ha, ← hsa]
      refine List.ext_getElem? fun i => ?_
      rw [List.getElem?_take, List.getElem?_take]
      split
      · rw [mix_get hlen, if_pos (by omega)]
      · rfl
end Lg
/- The plain law of the log: sectors, and the bytes that they are together. -/
namespace Lg
/-- The bytes of some sectors. -/
def flat (L : List ByteArray) : List UInt8 := L.flatMap (·.data.toList)
def Whole (L : List ByteArray) : Prop := ∀ b ∈ L, b.size = 128
theorem flat_nil : flat [] = [] := rfl
theorem flat_cons (b : ByteArray) (L : List ByteArray) : flat (b :: L) = b.data.toList ++ flat L := rfl
theorem flat_append (L M : List ByteArray) : flat (L ++ M) = flat L ++ flat M := List.flatMap_append
theorem Whole.tail {b : ByteArray} {L : List ByteArray} (h : Whole (b :: L)) : b.data.toList.length = 128 ∧ Whole L :=
  ⟨by have := h b (List.mem_cons_self ..); simpa using this, fun x hx => h x (List.mem_cons_of_mem _ hx)⟩
theorem Whole.set {L : List ByteArray} (h : Whole L) (k : Nat) {b : ByteArray} (hb : b.size = 128) : Whole (L.set k b) := fun x hx => by
  rcases List.mem_or_eq_of_mem_set hx with h1 | h1
  · exact h x h1
  · rw [h1]; exact hb
theorem Whole.take {L : List ByteArray} (h : Whole L) (k : Nat) : Whole (L.take k) := fun x hx => h x (List.mem_of_mem_take hx)
theorem Whole.drop {L : List ByteArray} (h : Whole L) (k : Nat) : Whole (L.drop k) := fun x hx => h x (List.mem_of_mem_drop hx)
theorem flat_len {L : List ByteArray} (h : Whole L) : (flat L).length = L.length * 128 := by
  induction L with
  | nil => rfl
  | cons b L ih =>
    obtain ⟨h1, h2⟩ := h.tail
    rw [flat_cons, List.length_append, h1, ih h2, List.length_cons]; omega
theorem flat_set {L : List ByteArray} (h : Whole L) {b : ByteArray} (hb : b.size = 128) : ∀ (k : Nat), k < L.length → ∀ i, (flat (L.set k b))[i]? = if k * 128 ≤ i ∧ i < k * 128 + 128 then b.data.toList[i - k * 128]? else (flat L)[i]? := by
  have hbl : b.data.toList.length = 128 := by simpa using hb
  induction L with
  | nil => intro k hk; simp at hk
  | cons c L ih =>
    obtain ⟨h1, h2⟩ := h.tail
    intro k hk i
    cases k with
    | zero =>
      rw [List.set_cons_zero, flat_cons, flat_cons]
      by_cases hi : i < 128
      · rw [if_pos (by omega), List.getElem?_append_left (by omega), Nat.zero_mul, Nat.sub_zero]
      · rw [if_neg (by omega), List.getElem?_append_right (by omega), List.getElem?_append_right (by omega), hbl, h1]
    | succ k =>
      rw [List.set_cons_succ, flat_cons, flat_cons]
      by_cases hi : i < 128
      · rw [if_neg (by omega), List.getElem?_append_left (by omega), List.getElem?_append_left (by omega)]
      · rw [List.getElem?_append_right (by omega), h1, ih h2 k (by simpa using hk) (i - 128)]
        by_cases hc : (k + 1) * 128 ≤ i ∧ i < (k + 1) * 128 + 128
        · rw [if_pos hc, if_pos (by omega), show i - 128 - k * 128 = i - (k + 1) * 128 by omega]
        · rw [if_neg hc, if_neg (by omega), List.getElem?_append_right (by omega), h1]
/-- One more sector, from the last one to the first. -/
theorem mix_step {L : List ByteArray} {s n : List UInt8} {k : Nat} {b : ByteArray} (hw : Whole L) (hb : b.size = 128) (hk : k < L.length) (hlen : s.length = n.length) (h : flat L = mix s n ((k + 1) * 128))
    (hn : b.data.toList = (n.drop (k * 128)).take 128) : flat (L.set k b) = mix s n (k * 128) := by
  refine List.ext_getElem? fun i => ?_
  rw [flat_set hw hb k hk, h, mix_get hlen, mix_get hlen]
  by_cases h1 : i < k * 128
  · rw [if_neg (by omega), if_pos (by omega), if_pos h1]
  · rw [if_neg h1]
    by_cases h2 : i < k * 128 + 128
    · rw [if_pos (by omega), hn, List.getElem?_take, if_pos (by omega), List.getElem?_drop]; congr 1; omega
    · rw [if_neg (by omega), if_neg (by omega)]
/-- The bytes from a sector on. -/
theorem flat_drop {L : List ByteArray} (h : Whole L) (k : Nat) : flat (L.drop k) = (flat L).drop (k * 128) := by
  induction k generalizing L with
  | zero => simp
  | succ k ih =>
    cases L with
    | nil => simp [flat]
    | cons b L =>
      obtain ⟨h1, h2⟩ := h.tail
      rw [List.drop_succ_cons, ih h2, flat_cons, show (k + 1) * 128 = 128 + k * 128 by omega, ← List.drop_drop, List.drop_left' h1]
theorem flat_take {L : List ByteArray} (h : Whole L) (k : Nat) : flat (L.take k) = (flat L).take (k * 128) := by
  induction k generalizing L with
  | zero => simp [flat]
  | succ k ih =>
    cases L with
    | nil => simp [flat]
    | cons b L =>
      obtain ⟨h1, h2⟩ := h.tail
      rw [List.take_succ_cons, flat_cons, ih h2, flat_cons, show (k + 1) * 128 = 128 + k * 128 by omega, List.take_append, h1, Nat.add_sub_cancel_left, List.take_of_length_le (l := b.data.toList) (by omega)]
/-- A record is read in the bytes from a sector on as it is in all. -/
theorem getO_drop (s : List UInt8) (d a : Nat) (h : d ≤ s.length) : getO (s.drop d) a = (getO s (d + a)).map fun x => (x.1, x.2 - d) := by
  have hg : ∀ k m, Oct.getN (s.drop d) k m = Oct.getN s (d + k) m := fun k m => by unfold Oct.getN; rw [List.drop_drop]
  have hb : bodyAt (s.drop d) a = bodyAt s (d + a) := by unfold bodyAt; rw [hg, List.drop_drop, Nat.add_assoc]
  have hI : Is (s.drop d) a ↔ Is s (d + a) := by
    unfold Is
    rw [hg, hg, hb, List.length_drop, Nat.add_assoc d a 4]
    constructor
    · rintro ⟨h1, h2⟩; exact ⟨by omega, h2⟩
    · rintro ⟨h1, h2⟩; exact ⟨by omega, h2⟩
  by_cases h1 : Is s (d + a)
  · rw [getO_yes h1, getO_yes (hI.2 h1), hb, hg]
    simp only [Option.map_some]
    congr 2; omega
  · rw [getO_no h1, getO_no (fun h => h1 (hI.1 h))]; rfl
end Lg
