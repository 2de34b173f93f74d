/- The walks over package rec: the forms of records. -/
import Derived.Test.YtojaagnfjenhoaaGreatGl03
import Derived.Test.YtojaagnfjenhoaaGreatGl02
import Derived.BigRegion
namespace Go.Proofs.YtojaagnfjenhoaaGreat
open Go.RowKit
/-- The forms of all kinds. -/
def formsA : Array Value := ((List.range 10).flatMap fun k => [Value.bool (k == 2 || k == 3 || k == 8), .bool (k == 2), .bool (k == 3 || k == 4), .bool (k == 9), .bool (k != 0)]).toArray
theorem info_forms : (Tryz.prog.info? 142).map (·.size) = some formsA.size := by kernel_rfl
set_option maxRecDepth 100000 in
set_option maxHeartbeats 400000 in
theorem forms_any (w : World) :
    Calls Tryz.prog 99 #[] w fun e w' => e = .returned (.agg formsA) ∧ Below w.heap.size w w' := by
  go_enter Tryz.func99, Tryz.ntmps99
  go_wp2_with (with_reducible refine wpList_store_new rfl 142 (.tmp 0) (.tmp 10) rfl formsA _ _ rfl (by kernel_rfl) (by kernel_rfl) info_forms (by kernel_rfl) ?_)
  exact bodyPost_ret (v := .agg formsA) (results_cell rfl _ _ rfl (load_whole (heap_alloc_new w _) Tryz.underlying142 rfl info_forms)) rfl ⟨rfl, allocB _ _⟩
abbrev formV (a b c d e : Bool) : Value := .agg #[.bool a, .bool b, .bool c, .bool d, .bool e]
/-- What of returns. -/
def ofV (k : Int) : Value := .tuple #[formV (k == 2 || k == 3 || k == 8) (k == 2) (k == 3 || k == 4) (k == 9) (decide (1 ≤ k ∧ k ≤ 9)), .bool (decide (1 ≤ k ∧ k ≤ 9))]
theorem ofV_out {k : Int} (h : ¬ (0 ≤ k ∧ k ≤ 9)) : ofV k = .tuple #[formV false false false false false, .bool false] := by
  have h1 : (k == 2) = false := by simp; omega
  have h2 : (k == 3) = false := by simp; omega
  have h3 : (k == 4) = false := by simp; omega
  have h4 : (k == 8) = false := by simp; omega
  have h5 : (k == 9) = false := by simp; omega
  have h6 : decide (1 ≤ k ∧ k ≤ 9) = false := decide_eq_false (by omega)
  unfold ofV
  rw [h1, h2, h3, h4, h5, h6]
  rfl
theorem index_form0 (W : World) : (Instr.index 142 (.agg formsA) (.int .i64 ((0 : Nat) : Int))).run Tryz.prog W = .ok (.agg (formsA.extract (0 * 5) (0 * 5 + 5))) W := by kernel_rfl
theorem index_form1 (W : World) : (Instr.index 142 (.agg formsA) (.int .i64 ((1 : Nat) : Int))).run Tryz.prog W = .ok (.agg (formsA.extract (1 * 5) (1 * 5 + 5))) W := by kernel_rfl
theorem index_form2 (W : World) : (Instr.index 142 (.agg formsA) (.int .i64 ((2 : Nat) : Int))).run Tryz.prog W = .ok (.agg (formsA.extract (2 * 5) (2 * 5 + 5))) W := by kernel_rfl
theorem index_form3 (W : World) : (Instr.index 142 (.agg formsA) (.int .i64 ((3 : Nat) : Int))).run Tryz.prog W = .ok (.agg (formsA.extract (3 * 5) (3 * 5 + 5))) W := by kernel_rfl
theorem index_form4 (W : World) : (Instr.index 142 (.agg formsA) (.int .i64 ((4 : Nat) : Int))).run Tryz.prog W = .ok (.agg (formsA.extract (4 * 5) (4 * 5 + 5))) W := by kernel_rfl
theorem index_form5 (W : World) : (Instr.index 142 (.agg formsA) (.int .i64 ((5 : Nat) : Int))).run Tryz.prog W = .ok (.agg (formsA.extract (5 * 5) (5 * 5 + 5))) W := by kernel_rfl
theorem index_form6 (W : World) : (Instr.index 142 (.agg formsA) (.int .i64 ((6 : Nat) : Int))).run Tryz.prog W = .ok (.agg (formsA.extract (6 * 5) (6 * 5 + 5))) W := by kernel_rfl
theorem index_form7 (W : World) : (Instr.index 142 (.agg formsA) (.int .i64 ((7 : Nat) : Int))).run Tryz.prog W = .ok (.agg (formsA.extract (7 * 5) (7 * 5 + 5))) W := by kernel_rfl
theorem index_form8 (W : World) : (Instr.index 142 (.agg formsA) (.int .i64 ((8 : Nat) : Int))).run Tryz.prog W = .ok (.agg (formsA.extract (8 * 5) (8 * 5 + 5))) W := by kernel_rfl
theorem index_form9 (W : World) : (Instr.index 142 (.agg formsA) (.int .i64 ((9 : Nat) : Int))).run Tryz.prog W = .ok (.agg (formsA.extract (9 * 5) (9 * 5 + 5))) W := by kernel_rfl
theorem index_form (k : Nat) (hk : k < 10) (W : World) : (Instr.index 142 (.agg formsA) (.int .i64 (k : Int))).run Tryz.prog W = .ok (.agg (formsA.extract (k * 5) (k * 5 + 5))) W := by
  have hk : k = 0 ∨ k = 1 ∨ k = 2 ∨ k = 3 ∨ k = 4 ∨ k = 5 ∨ k = 6 ∨ k = 7 ∨ k = 8 ∨ k = 9 := by omega
  rcases hk with rfl | rfl | rfl | rfl | rfl | rfl | rfl | rfl | rfl | rfl
  · exact index_form0 W
  · exact index_form1 W
  · exact index_form2 W
  · exact index_form3 W
  · exact index_form4 W
  · exact index_form5 W
  · exact index_form6 W
  · exact index_form7 W
  · exact index_form8 W
  · exact index_form9 W
set_option maxRecDepth 100000 in
set_option maxHeartbeats 1000000 in
theorem of_in (k : Nat) (a b c d e : Bool) (hk : k < 10) (h : (formsA.extract (k * 5) (k * 5 + 5)) = #[.bool a, .bool b, .bool c, .bool d, .bool e]) (w : World) :
    Calls Tryz.prog 63 #[.int .i64 (k : Int)] w fun x w' => x = .returned (.tuple #[formV a b c d e, .bool e]) ∧ Below w.heap.size w w' := by
  have hix := index_form k hk
  rw [h] at hix
  clear h
  have h1 : ((k : Int) < 0) = False := by simp
  have hk2 : (k : Int) ≤ 9 := by omega
  generalize hF : formsA = F at hix
  clear hk
  go_enter Tryz.func63, Tryz.ntmps63
  go_upto_region 4 with ((go_at_call 99; (with_reducible refine (forms_any _).mono ?_); rintro x w2 ⟨rfl, hb2⟩; rw [hF]; have HB := Lib.hid hb2; clear hb2))
  have hne : w2.heap.size ≠ w.heap.size := by have := HB.out.size; simp at this; omega
  have hlt : w.heap.size < w2.heap.size := by have := HB.out.size; simp at this; omega
  have HR := Lib.hid (show (w2.alloc (.cells #[.bool a, .bool b, .bool c, .bool d, .bool e] 110)).heap[w.heap.size]? = some (.cells #[.bool false, .bool false, .bool false, .bool false, .bool false] 110 (0, 0)) from by
    rw [Below.heap_alloc _ _ _ hlt]; exact blkNew HB.out)
  have HN := Lib.hid (heap_alloc_new w2 (.cells #[.bool a, .bool b, .bool c, .bool d, .bool e] 110))
  have HV := Lib.hid (pastAlloc (o := .cells #[.bool a, .bool b, .bool c, .bool d, .bool e] 110) (joinB (allocB _ _) HB.out))
  generalize w2.alloc (.cells #[.bool a, .bool b, .bool c, .bool d, .bool e] 110) = V at HR HN HV ⊢
  have c0 := blkCell HN.out 0
  have c1 := blkCell HN.out 1
  have c2 := blkCell HN.out 2
  have c3 := blkCell HN.out 3
  have c4 := blkCell HN.out 4
  have r0 := blkCell HR.out 0
  have r1 := blkCell HR.out 1
  have r2 := blkCell HR.out 2
  have r3 := blkCell HR.out 3
  have r4 := blkCell HR.out 4
  have z0 := blkFrozen HR.out 0
  have z1 := blkFrozen HR.out 1
  have z2 := blkFrozen HR.out 2
  have z3 := blkFrozen HR.out 3
  have z4 := blkFrozen HR.out 4
  simp at c0 c1 c2 c3 c4 r0 r1 r2 r3 r4
  clear hix hF
  go_region
  all_goals
    go_wp2_with fail
    refine bodyPost_ret (v := .tuple #[formV a b c d e, .bool e]) (by simp [results, Tryz.results63, go_sem, *]) rfl ⟨rfl, (((((HV.out.setCell (Nat.le_refl _) _).setCell (Nat.le_refl _) _).setCell (Nat.le_refl _) _).setCell (Nat.le_refl _) _).setCell (Nat.le_refl _) _).drew⟩
set_option maxRecDepth 100000 in
set_option maxHeartbeats 1000000 in
theorem of_any (k : Int) (w : World) :
    Calls Tryz.prog 63 #[.int .i64 k] w fun x w' => x = .returned (ofV k) ∧ Below w.heap.size w w' := by
  by_cases h : 0 ≤ k ∧ k ≤ 9
  · obtain ⟨n, rfl⟩ := Int.eq_ofNat_of_zero_le h.1
    have hk : n = 0 ∨ n = 1 ∨ n = 2 ∨ n = 3 ∨ n = 4 ∨ n = 5 ∨ n = 6 ∨ n = 7 ∨ n = 8 ∨ n = 9 := by omega
    rcases hk with rfl | rfl | rfl | rfl | rfl | rfl | rfl | rfl | rfl | rfl
    · exact of_in 0 _ _ _ _ _ (by omega) (by kernel_rfl) w
    · exact of_in 1 _ _ _ _ _ (by omega) (by kernel_rfl) w
    · exact of_in 2 _ _ _ _ _ (by omega) (by kernel_rfl) w
    · exact of_in 3 _ _ _ _ _ (by omega) (by kernel_rfl) w
    · exact of_in 4 _ _ _ _ _ (by omega) (by kernel_rfl) w
    · exact of_in 5 _ _ _ _ _ (by omega) (by kernel_rfl) w
    · exact of_in 6 _ _ _ _ _ (by omega) (by kernel_rfl) w
    · exact of_in 7 _ _ _ _ _ (by omega) (by kernel_rfl) w
    · exact of_in 8 _ _ _ _ _ (by omega) (by kernel_rfl) w
    · exact of_in 9 _ _ _ _ _ (by omega) (by kernel_rfl) w
  · rw [ofV_out h]
    by_cases h0 : k < 0
    · clear h
      go_enter Tryz.func63, Tryz.ntmps63
      go_wp2_with fail
      exact bodyPost_ret (v := .tuple #[formV false false false false false, .bool false]) (by simp [results, Tryz.results63, go_sem]) rfl ⟨rfl, allocB _ _⟩
    · have h1 : 0 ≤ k := by omega
      have h2 : 9 < k := by omega
      clear h h0
      go_enter Tryz.func63, Tryz.ntmps63
      go_wp2_with fail
      exact bodyPost_ret (v := .tuple #[formV false false false false false, .bool false]) (by simp [results, Tryz.results63, go_sem]) rfl ⟨rfl, allocB _ _⟩
end Go.Proofs.YtojaagnfjenhoaaGreat
/- The walks over package rec: the lists of a checkpoint. -/
namespace Rc
instance : DecidableEq TxnAt := fun a b => by
  obtain ⟨a1, a2, a3, a4⟩ := a
  obtain ⟨b1, b2, b3, b4⟩ := b
  by_cases h : a1 = b1 ∧ a2 = b2 ∧ a3 = b3 ∧ a4 = b4
  · exact .isTrue (by obtain ⟨rfl, rfl, rfl, rfl⟩ := h; rfl)
  · exact .isFalse (fun e => by injection e with e1 e2 e3 e4; exact h ⟨e1, e2, e3, e4⟩)
instance : DecidableEq DirtyAt := fun a b => by
  obtain ⟨a1, a2⟩ := a
  obtain ⟨b1, b2⟩ := b
  by_cases h : a1 = b1 ∧ a2 = b2
  · exact .isTrue (by obtain ⟨rfl, rfl⟩ := h; rfl)
  · exact .isFalse (fun e => by injection e with e1 e2; exact h ⟨e1, e2⟩)
theorem all_no {α : Type} (R : α → Prop) [DecidablePred R] {l : List α} {k : Nat} (hk : k < l.length) (h : ¬ R l[k]) : decide (∀ x ∈ l, R x) = false := decide_eq_false (fun h' => h (h' _ (List.getElem_mem hk)))
theorem all_yes {α : Type} (R : α → Prop) [DecidablePred R] {l : List α} (h : ∀ k (hk : k < l.length), R l[k]) : decide (∀ x ∈ l, R x) = true := decide_eq_true (fun x hx => by
  obtain ⟨k, hk, rfl⟩ := List.getElem_of_mem hx
  exact h k hk)
theorem eq_no {α : Type} [DecidableEq α] {l m : List α} {k : Nat} (hk : k < l.length) (hk' : k < m.length) (h : l[k] ≠ m[k]) : decide (l = m) = false := decide_eq_false (fun e => h (by subst e; rfl))
theorem eq_yes {α : Type} [DecidableEq α] {l m : List α} (hl : l.length = m.length) (h : ∀ k (hk : k < l.length) (hk' : k < m.length), l[k] = m[k]) : decide (l = m) = true := decide_eq_true (List.ext_getElem hl h)
end Rc
namespace Go.Proofs.YtojaagnfjenhoaaGreat
open Go.RowKit
def txC (t : Rc.TxnAt) : List Value := [.int .i64 t.txn, .int .i64 t.last, .int .i64 t.next, .bool t.done]
def diC (t : Rc.DirtyAt) : List Value := [.int .i64 t.page, .int .i64 t.from_]
theorem txC_len (t : Rc.TxnAt) : (txC t).length = 4 := rfl
theorem diC_len (t : Rc.DirtyAt) : (diC t).length = 2 := rfl
abbrev txV (t : Rc.TxnAt) : Value := .agg #[.int .i64 t.txn, .int .i64 t.last, .int .i64 t.next, .bool t.done]
abbrev diV (t : Rc.DirtyAt) : Value := .agg #[.int .i64 t.page, .int .i64 t.from_]
abbrev TxR (w : World) (A : Option Addr) (c : Nat) (l : List Rc.TxnAt) : Prop := Reads w A c l.length (l.flatMap txC)
abbrev DiR (w : World) (A : Option Addr) (c : Nat) (l : List Rc.DirtyAt) : Prop := Reads w A c l.length (l.flatMap diC)
def IdxOut (b : Bool) (w : World) (e : Ending) (w' : World) : Prop := ∃ k : Int, e = .returned (.int .i64 k) ∧ (if b then k = -1 else 0 ≤ k) ∧ Below w.heap.size w w'
theorem txn_equal (a b : Rc.TxnAt) (w : World) : (Op.equalIn 10000 106 (txV a) (txV b)).run Tryz.prog w = .ok (decide (a = b)) w := by
  obtain ⟨k1, p1, s1, t1⟩ := a
  obtain ⟨k2, p2, s2, t2⟩ := b
  have hS : Tryz.prog.underlying 106 = some (.struct (Tryz.prog.fieldsOf 106)) := by kernel_rfl
  have hp : Tryz.prog.stoodInHeld 106 = false := by kernel_rfl
  rw [show (10000 : Nat) = 9999 + 1 from rfl, run_equalIn_agg w 9999 106 _ _ hS hp]
  simp only [Program.fieldsOf, Tryz.underlying106]
  go_simp
  by_cases h0 : k1 = k2 <;> by_cases h1 : p1 = p2 <;> by_cases h2 : s1 = s2 <;> cases t1 <;> cases t2 <;> simp [h0, h1, h2]
theorem dirty_equal (a b : Rc.DirtyAt) (w : World) : (Op.equalIn 10000 108 (diV a) (diV b)).run Tryz.prog w = .ok (decide (a = b)) w := by
  obtain ⟨k1, p1⟩ := a
  obtain ⟨k2, p2⟩ := b
  have hS : Tryz.prog.underlying 108 = some (.struct (Tryz.prog.fieldsOf 108)) := by kernel_rfl
  have hp : Tryz.prog.stoodInHeld 108 = false := by kernel_rfl
  rw [show (10000 : Nat) = 9999 + 1 from rfl, run_equalIn_agg w 9999 108 _ _ hS hp]
  simp only [Program.fieldsOf, Tryz.underlying108]
  go_simp
  by_cases h0 : k1 = k2 <;> by_cases h1 : p1 = p2 <;> simp [h0, h1]
theorem txn_bad_any (t : Rc.TxnAt) (w : World) :
    Calls Tryz.prog 69 #[txV t] w fun e w' => e = .returned (.bool (!decide (Rc.txnR t))) ∧ Below w.heap.size w w' := by
  obtain ⟨a, b, c, d⟩ := t
  have HN := Lib.hid (fun W g h => number3 a b c W g h)
  rw [show decide (Rc.txnR ⟨a, b, c, d⟩) = decide (Rc.num a ∧ Rc.num b ∧ Rc.num c) from rfl]
  generalize decide (Rc.num a ∧ Rc.num b ∧ Rc.num c) = q at HN ⊢
  go_enter Tryz.func69, Tryz.ntmps69
  go_wp2_with ((go_at_call 64; (with_reducible refine (HN.out _ _ ?_).mono ?_); (with_reducible exact new2 _ _ _); rintro e w' ⟨rfl, hb⟩))
  go_ret
  exact ⟨rfl, joinB (pastAlloc (allocB _ _)) hb⟩
theorem dirty_bad_any (t : Rc.DirtyAt) (w : World) :
    Calls Tryz.prog 71 #[diV t] w fun e w' => e = .returned (.bool (!decide (Rc.dirtyR t))) ∧ Below w.heap.size w w' := by
  obtain ⟨a, b⟩ := t
  have HP := Lib.hid (fun W g h => paged1 a W g h)
  have HN := Lib.hid (fun W g h => number1 b W g h)
  rw [show decide (Rc.dirtyR ⟨a, b⟩) = (decide (Rc.pg a) && decide (Rc.num b)) from Bool.decide_and _ _]
  generalize decide (Rc.pg a) = p at HP ⊢
  generalize decide (Rc.num b) = q at HN ⊢
  cases p with
  | false =>
    go_enter Tryz.func71, Tryz.ntmps71
    go_wp2_with ((go_at_call 65; (with_reducible refine (HP.out _ _ ?_).mono ?_); (with_reducible exact new2 _ _ _); rintro e w' ⟨rfl, hb⟩))
    go_ret
    exact ⟨rfl, joinB (pastAlloc (allocB _ _)) hb⟩
  | true =>
    go_enter Tryz.func71, Tryz.ntmps71
    go_wp2_with (first
      | (go_at_call 65; (with_reducible refine (HP.out _ _ ?_).mono ?_); (with_reducible exact new2 _ _ _); rintro e w' ⟨rfl, hb⟩; have h11 := blkCell (blkPast (heap_alloc_new w _) hb) 1; simp at h11)
      | (go_at_call 64; (with_reducible refine (HN.out _ _ ?_).mono ?_); (with_reducible exact heap_alloc_new _ _); rintro e w2 ⟨rfl, hb2⟩))
    go_ret
    exact ⟨by simp, joinB (pastAlloc (joinB (pastAlloc (allocB _ _)) hb)) hb2⟩
theorem index_txn (l : List Rc.TxnAt) (hn : l.length ≤ 1048576) (A : Option Addr) (c : Nat) (w : World) (hr : TxR w A c l) :
    Calls Tryz.prog 102 #[.slice A l.length c, .func (.func 69) #[] #[]] w (IdxOut (decide (∀ x ∈ l, Rc.txnR x)) w) := by
  have HR := Lib.hid hr
  have HO := Lib.hid (fun t W => txn_bad_any t W)
  obtain ⟨b, hb⟩ : ∃ b, b = decide (∀ x ∈ l, Rc.txnR x) := ⟨_, rfl⟩
  rw [← hb]
  have HB := Lib.hid hb
  clear hr hb
  go_enter Tryz.func102, Tryz.ntmps102
  go_wp2_with fail
  go_loopw [8] (fun i wr => ∃ k : Nat, k ≤ l.length ∧ i = .int .i64 k ∧ (∀ j (hj : j < l.length), j < k → Rc.txnR l[j]) ∧ Below w.heap.size w wr) (fun i _ => l.length - (intOf i).toNat)
  case atStart => exact ⟨0, Nat.zero_le _, rfl, fun _ _ h => absurd h (by omega), Below.refl _ _⟩
  case round =>
    obtain ⟨k, hk, rfl, hall, hbw⟩ := hrel
    have HA := Lib.hid hall
    clear hall
    by_cases hlt : k < l.length
    · obtain ⟨b', off, rfl, hc, hbl, hcell⟩ := read_at txC_len (HR.out.below hbw) hlt
      have q0 := hcell 0 _ rfl
      have q1 := hcell 1 _ rfl
      have q2 := hcell 2 _ rfl
      have q3 := hcell 3 _ rfl
      clear hcell
      simp only [Nat.add_zero] at q0
      have HN := Lib.hid (show ¬ Rc.txnR l[k] → b = false from fun h => HB.out.trans (Rc.all_no _ hlt h))
      have HY := Lib.hid (show Rc.txnR l[k] → ∀ j (hj : j < l.length), j < k + 1 → Rc.txnR l[j] from fun h j hj hjk => by
        rcases Nat.lt_or_eq_of_le (Nat.le_of_lt_succ hjk) with h1 | h1
        · exact HA.out j hj h1
        · subst h1; exact h)
      have HOk := Lib.hid (fun W => HO.out l[k] W)
      generalize l[k] = x at q0 q1 q2 q3 HN HY HOk
      cases hd : decide (Rc.txnR x) with
      | true =>
        have HY2 := Lib.hid (HY.out (of_decide_eq_true hd))
        rw [hd] at HOk
        clear HN HY hd
        obtain ⟨fa, fb, fc, fd⟩ := x
        go_wp2_with ((go_at_call 69; (with_reducible refine (HOk.out _).mono ?_); rintro e w' ⟨rfl, hb2⟩))
        go_roundw
        case rel => exact ⟨k + 1, by omega, by go_num, HY2.out, joinB hbw hb2⟩
        case measure => simp [intOf]; omega
      | false =>
        have HN2 := Lib.hid (HN.out (of_decide_eq_false hd))
        rw [hd] at HOk
        clear HN HY hd
        obtain ⟨fa, fb, fc, fd⟩ := x
        go_wp2_with ((go_at_call 69; (with_reducible refine (HOk.out _).mono ?_); rintro e w' ⟨rfl, hb2⟩))
        go_ret
        exact ⟨k, rfl, by rw [HN2.out]; simp, joinB hbw hb2⟩
    · obtain rfl : k = l.length := by omega
      have HE := Lib.hid (show b = true from HB.out.trans (Rc.all_yes _ fun j hj => HA.out j hj hj))
      go_wp2_with fail
      go_ret
      exact ⟨-1, rfl, by rw [HE.out]; rfl, hbw⟩
theorem contains_txn (l : List Rc.TxnAt) (hn : l.length ≤ 1048576) (A : Option Addr) (c : Nat) (w : World) (hr : TxR w A c l) :
    Calls Tryz.prog 68 #[.slice A l.length c, .func (.func 69) #[] #[]] w fun e w' => e = .returned (.bool (!decide (∀ x ∈ l, Rc.txnR x))) ∧ Below w.heap.size w w' := by
  have HI := Lib.hid (index_txn l hn A c w hr)
  clear hr
  generalize decide (∀ x ∈ l, Rc.txnR x) = b at HI ⊢
  cases b with
  | true =>
    go_enter Tryz.func68, Tryz.ntmps68
    go_wp2_with ((go_at_call 102; refine (HI.out).mono ?_; rintro e w' ⟨k, rfl, hk, hb⟩; obtain rfl : k = -1 := hk))
    go_ret
    exact ⟨rfl, hb⟩
  | false =>
    go_enter Tryz.func68, Tryz.ntmps68
    go_wp2_with ((go_at_call 102; refine (HI.out).mono ?_; rintro e w' ⟨k, rfl, hk, hb⟩; have hk0 : 0 ≤ k := by simpa using hk))
    go_ret
    exact ⟨by simp [*], hb⟩
set_option maxRecDepth 100000 in
theorem equal_txn (l m : List Rc.TxnAt) (hn : l.length ≤ 140737488355328) (_hm : m.length ≤ 140737488355328) (A A' : Option Addr) (c c' : Nat) (w : World) (hr : TxR w A c l) (hr' : TxR w A' c' m) :
    Calls Tryz.prog 104 #[.slice A l.length c, .slice A' m.length c'] w fun e w' => e = .returned (.bool (decide (l = m))) ∧ Below w.heap.size w w' := by
  have HR := Lib.hid hr
  have HR' := Lib.hid hr'
  obtain ⟨b, hb⟩ : ∃ b, b = decide (l = m) := ⟨_, rfl⟩
  rw [← hb]
  have HB := Lib.hid hb
  clear hr hr' hb
  by_cases hlm : l.length = m.length
  rotate_left
  · have hne : ((l.length : Int) == (m.length : Int)) = false := by simp; omega
    have hne2 : ((l.length : Int) != (m.length : Int)) = true := by simp; omega
    have hne3 : (l.length == m.length) = false := by simpa using hlm
    have hne4 : (l.length != m.length) = true := by simpa using hlm
    have HF := Lib.hid (HB.out.trans (decide_eq_false (fun e => hlm (by rw [e]))))
    go_enter Tryz.func104, Tryz.ntmps104
    go_wp2_with fail
    all_goals
      go_ret
      exact ⟨by rw [HF.out]; rfl, Below.refl _ _⟩
  · have HLM := Lib.hid hlm
    obtain ⟨n, hn'⟩ : ∃ n, n = l.length := ⟨_, rfl⟩
    rw [← hlm, ← hn']
    rw [← hn'] at hn
    have HNL := Lib.hid hn'
    clear hlm hn'
    go_enter Tryz.func104, Tryz.ntmps104
    go_wp2_with fail
    go_loopw [13] (fun i wr => ∃ k : Nat, k ≤ n ∧ i = .int .i64 k ∧ (∀ j (hj : j < l.length) (hj' : j < m.length), j < k → l[j] = m[j]) ∧ Below w.heap.size w wr) (fun i _ => n - (intOf i).toNat)
    case atStart => exact ⟨0, Nat.zero_le _, rfl, fun _ _ _ h => absurd h (by omega), Below.refl _ _⟩
    case round =>
      obtain ⟨k, hk, rfl, hall, hbw⟩ := hrel
      have HA := Lib.hid hall
      clear hall
      by_cases hlt : k < n
      · have hl1 : k < l.length := by rw [← HNL.out]; exact hlt
        have hl2 : k < m.length := by rw [← HLM.out]; exact hl1
        obtain ⟨b1, off, rfl, hc, hbl, hcell⟩ := read_at txC_len (HR.out.below hbw) hl1
        obtain ⟨b2, off2, rfl, hc2, hbl2, hcell2⟩ := read_at txC_len (HR'.out.below hbw) hl2
        have q0 := hcell 0 _ rfl
        have r0 := hcell2 0 _ rfl
        have q1 := hcell 1 _ rfl
        have r1 := hcell2 1 _ rfl
        have q2 := hcell 2 _ rfl
        have r2 := hcell2 2 _ rfl
        have q3 := hcell 3 _ rfl
        have r3 := hcell2 3 _ rfl
        clear hcell hcell2
        simp only [Nat.add_zero] at q0 r0
        have HN := Lib.hid (show l[k] ≠ m[k] → b = false from fun h => HB.out.trans (Rc.eq_no hl1 hl2 h))
        have HY := Lib.hid (show l[k] = m[k] → ∀ j (hj : j < l.length) (hj' : j < m.length), j < k + 1 → l[j] = m[j] from fun h j hj hj' hjk => by
          rcases Nat.lt_or_eq_of_le (Nat.le_of_lt_succ hjk) with h1 | h1
          · exact HA.out j hj hj' h1
          · subst h1; exact h)
        have HE := Lib.hid (fun W => txn_equal l[k] m[k] W)
        clear hc hc2 HA
        generalize l[k] = x at q0 q1 q2 q3 HN HY HE
        generalize m[k] = y at r0 r1 r2 r3 HN HY HE
        have hi1 : (0 : Int) ≤ (k : Int) := by omega
        have hi2 : (k : Int) < (n : Int) := by omega
        have hi3 : decide (k < n) = true := decide_eq_true hlt
        cases hd : decide (x = y) with
        | true =>
          have HY2 := Lib.hid (HY.out (of_decide_eq_true hd))
          have heq := HE.out
          rw [hd] at heq
          clear HN HY hd HE
          obtain ⟨xfa, xfb, xfc, xfd⟩ := x
          obtain ⟨yfa, yfb, yfc, yfd⟩ := y
          go_upto_region 6 with (fail)
          go_quiet (fail)
          go_wp2_with fail
          go_roundw
          case rel => exact ⟨k + 1, by omega, by go_num, HY2.out, joinB hbw (drewB _ _)⟩
          case measure => simp [intOf]; omega
        | false =>
          have HN2 := Lib.hid (HN.out (of_decide_eq_false hd))
          have heq := HE.out
          rw [hd] at heq
          clear HN HY hd HE
          obtain ⟨xfa, xfb, xfc, xfd⟩ := x
          obtain ⟨yfa, yfb, yfc, yfd⟩ := y
          go_upto_region 6 with (fail)
          go_quiet (fail)
          go_wp2_with fail
          go_ret
          exact ⟨by rw [HN2.out]; rfl, joinB hbw (drewB _ _)⟩
      · obtain rfl : k = n := by omega
        have HE := Lib.hid (show b = true from HB.out.trans (Rc.eq_yes HLM.out fun j hj hj' => HA.out j hj hj' (by rw [HNL.out]; exact hj)))
        have hi3 : decide (k < k) = false := decide_eq_false (by omega)
        go_wp2_with fail
        go_ret
        exact ⟨by rw [HE.out]; rfl, hbw⟩
theorem index_dirty (l : List Rc.DirtyAt) (hn : l.length ≤ 1048576) (A : Option Addr) (c : Nat) (w : World) (hr : DiR w A c l) :
    Calls Tryz.prog 103 #[.slice A l.length c, .func (.func 71) #[] #[]] w (IdxOut (decide (∀ x ∈ l, Rc.dirtyR x)) w) := by
  have HR := Lib.hid hr
  have HO := Lib.hid (fun t W => dirty_bad_any t W)
  obtain ⟨b, hb⟩ : ∃ b, b = decide (∀ x ∈ l, Rc.dirtyR x) := ⟨_, rfl⟩
  rw [← hb]
  have HB := Lib.hid hb
  clear hr hb
  go_enter Tryz.func103, Tryz.ntmps103
  go_wp2_with fail
  go_loopw [8] (fun i wr => ∃ k : Nat, k ≤ l.length ∧ i = .int .i64 k ∧ (∀ j (hj : j < l.length), j < k → Rc.dirtyR l[j]) ∧ Below w.heap.size w wr) (fun i _ => l.length - (intOf i).toNat)
  case atStart => exact ⟨0, Nat.zero_le _, rfl, fun _ _ h => absurd h (by omega), Below.refl _ _⟩
  case round =>
    obtain ⟨k, hk, rfl, hall, hbw⟩ := hrel
    have HA := Lib.hid hall
    clear hall
    by_cases hlt : k < l.length
    · obtain ⟨b', off, rfl, hc, hbl, hcell⟩ := read_at diC_len (HR.out.below hbw) hlt
      have q0 := hcell 0 _ rfl
      have q1 := hcell 1 _ rfl
      clear hcell
      simp only [Nat.add_zero] at q0
      have HN := Lib.hid (show ¬ Rc.dirtyR l[k] → b = false from fun h => HB.out.trans (Rc.all_no _ hlt h))
      have HY := Lib.hid (show Rc.dirtyR l[k] → ∀ j (hj : j < l.length), j < k + 1 → Rc.dirtyR l[j] from fun h j hj hjk => by
        rcases Nat.lt_or_eq_of_le (Nat.le_of_lt_succ hjk) with h1 | h1
        · exact HA.out j hj h1
        · subst h1; exact h)
      have HOk := Lib.hid (fun W => HO.out l[k] W)
      generalize l[k] = x at q0 q1 HN HY HOk
      cases hd : decide (Rc.dirtyR x) with
      | true =>
        have HY2 := Lib.hid (HY.out (of_decide_eq_true hd))
        rw [hd] at HOk
        clear HN HY hd
        obtain ⟨fa, fb⟩ := x
        go_wp2_with ((go_at_call 71; (with_reducible refine (HOk.out _).mono ?_); rintro e w' ⟨rfl, hb2⟩))
        go_roundw
        case rel => exact ⟨k + 1, by omega, by go_num, HY2.out, joinB hbw hb2⟩
        case measure => simp [intOf]; omega
      | false =>
        have HN2 := Lib.hid (HN.out (of_decide_eq_false hd))
        rw [hd] at HOk
        clear HN HY hd
        obtain ⟨fa, fb⟩ := x
        go_wp2_with ((go_at_call 71; (with_reducible refine (HOk.out _).mono ?_); rintro e w' ⟨rfl, hb2⟩))
        go_ret
        exact ⟨k, rfl, by rw [HN2.out]; simp, joinB hbw hb2⟩
    · obtain rfl : k = l.length := by omega
      have HE := Lib.hid (show b = true from HB.out.trans (Rc.all_yes _ fun j hj => HA.out j hj hj))
      go_wp2_with fail
      go_ret
      exact ⟨-1, rfl, by rw [HE.out]; rfl, hbw⟩
theorem contains_dirty (l : List Rc.DirtyAt) (hn : l.length ≤ 1048576) (A : Option Addr) (c : Nat) (w : World) (hr : DiR w A c l) :
    Calls Tryz.prog 70 #[.slice A l.length c, .func (.func 71) #[] #[]] w fun e w' => e = .returned (.bool (!decide (∀ x ∈ l, Rc.dirtyR x))) ∧ Below w.heap.size w w' := by
  have HI := Lib.hid (index_dirty l hn A c w hr)
  clear hr
  generalize decide (∀ x ∈ l, Rc.dirtyR x) = b at HI ⊢
  cases b with
  | true =>
    go_enter Tryz.func70, Tryz.ntmps70
    go_wp2_with ((go_at_call 103; refine (HI.out).mono ?_; rintro e w' ⟨k, rfl, hk, hb⟩; obtain rfl : k = -1 := hk))
    go_ret
    exact ⟨rfl, hb⟩
  | false =>
    go_enter Tryz.func70, Tryz.ntmps70
    go_wp2_with ((go_at_call 103; refine (HI.out).mono ?_; rintro e w' ⟨k, rfl, hk, hb⟩; have hk0 : 0 ≤ k := by simpa using hk))
    go_ret
    exact ⟨by simp [*], hb⟩
set_option maxRecDepth 100000 in
theorem equal_dirty (l m : List Rc.DirtyAt) (hn : l.length ≤ 140737488355328) (_hm : m.length ≤ 140737488355328) (A A' : Option Addr) (c c' : Nat) (w : World) (hr : DiR w A c l) (hr' : DiR w A' c' m) :
    Calls Tryz.prog 105 #[.slice A l.length c, .slice A' m.length c'] w fun e w' => e = .returned (.bool (decide (l = m))) ∧ Below w.heap.size w w' := by
  have HR := Lib.hid hr
  have HR' := Lib.hid hr'
  obtain ⟨b, hb⟩ : ∃ b, b = decide (l = m) := ⟨_, rfl⟩
  rw [← hb]
  have HB := Lib.hid hb
  clear hr hr' hb
  by_cases hlm : l.length = m.length
  rotate_left
  · have hne : ((l.length : Int) == (m.length : Int)) = false := by simp; omega
    have hne2 : ((l.length : Int) != (m.length : Int)) = true := by simp; omega
    have hne3 : (l.length == m.length) = false := by simpa using hlm
    have hne4 : (l.length != m.length) = true := by simpa using hlm
    have HF := Lib.hid (HB.out.trans (decide_eq_false (fun e => hlm (by rw [e]))))
    go_enter Tryz.func105, Tryz.ntmps105
    go_wp2_with fail
    all_goals
      go_ret
      exact ⟨by rw [HF.out]; rfl, Below.refl _ _⟩
  · have HLM := Lib.hid hlm
    obtain ⟨n, hn'⟩ : ∃ n, n = l.length := ⟨_, rfl⟩
    rw [← hlm, ← hn']
    rw [← hn'] at hn
    have HNL := Lib.hid hn'
    clear hlm hn'
    go_enter Tryz.func105, Tryz.ntmps105
    go_wp2_with fail
    go_loopw [13] (fun i wr => ∃ k : Nat, k ≤ n ∧ i = .int .i64 k ∧ (∀ j (hj : j < l.length) (hj' : j < m.length), j < k → l[j] = m[j]) ∧ Below w.heap.size w wr) (fun i _ => n - (intOf i).toNat)
    case atStart => exact ⟨0, Nat.zero_le _, rfl, fun _ _ _ h => absurd h (by omega), Below.refl _ _⟩
    case round =>
      obtain ⟨k, hk, rfl, hall, hbw⟩ := hrel
      have HA := Lib.hid hall
      clear hall
      by_cases hlt : k < n
      · have hl1 : k < l.length := by rw [← HNL.out]; exact hlt
        have hl2 : k < m.length := by rw [← HLM.out]; exact hl1
        obtain ⟨b1, off, rfl, hc, hbl, hcell⟩ := read_at diC_len (HR.out.below hbw) hl1
        obtain ⟨b2, off2, rfl, hc2, hbl2, hcell2⟩ := read_at diC_len (HR'.out.below hbw) hl2
        have q0 := hcell 0 _ rfl
        have r0 := hcell2 0 _ rfl
        have q1 := hcell 1 _ rfl
        have r1 := hcell2 1 _ rfl
        clear hcell hcell2
        simp only [Nat.add_zero] at q0 r0
        have HN := Lib.hid (show l[k] ≠ m[k] → b = false from fun h => HB.out.trans (Rc.eq_no hl1 hl2 h))
        have HY := Lib.hid (show l[k] = m[k] → ∀ j (hj : j < l.length) (hj' : j < m.length), j < k + 1 → l[j] = m[j] from fun h j hj hj' hjk => by
          rcases Nat.lt_or_eq_of_le (Nat.le_of_lt_succ hjk) with h1 | h1
          · exact HA.out j hj hj' h1
          · subst h1; exact h)
        have HE := Lib.hid (fun W => dirty_equal l[k] m[k] W)
        clear hc hc2 HA
        generalize l[k] = x at q0 q1 HN HY HE
        generalize m[k] = y at r0 r1 HN HY HE
        have hi1 : (0 : Int) ≤ (k : Int) := by omega
        have hi2 : (k : Int) < (n : Int) := by omega
        have hi3 : decide (k < n) = true := decide_eq_true hlt
        cases hd : decide (x = y) with
        | true =>
          have HY2 := Lib.hid (HY.out (of_decide_eq_true hd))
          have heq := HE.out
          rw [hd] at heq
          clear HN HY hd HE
          obtain ⟨xfa, xfb⟩ := x
          obtain ⟨yfa, yfb⟩ := y
          go_upto_region 6 with (fail)
          go_quiet (fail)
          go_wp2_with fail
          go_roundw
          case rel => exact ⟨k + 1, by omega, by go_num, HY2.out, joinB hbw (drewB _ _)⟩
          case measure => simp [intOf]; omega
        | false =>
          have HN2 := Lib.hid (HN.out (of_decide_eq_false hd))
          have heq := HE.out
          rw [hd] at heq
          clear HN HY hd HE
          obtain ⟨xfa, xfb⟩ := x
          obtain ⟨yfa, yfb⟩ := y
          go_upto_region 6 with (fail)
          go_quiet (fail)
          go_wp2_with fail
          go_ret
          exact ⟨by rw [HN2.out]; rfl, joinB hbw (drewB _ _)⟩
      · obtain rfl : k = n := by omega
        have HE := Lib.hid (show b = true from HB.out.trans (Rc.eq_yes HLM.out fun j hj hj' => HA.out j hj hj' (by rw [HNL.out]; exact hj)))
        have hi3 : decide (k < k) = false := decide_eq_false (by omega)
        go_wp2_with fail
        go_ret
        exact ⟨by rw [HE.out]; rfl, hbw⟩
end Go.Proofs.YtojaagnfjenhoaaGreat
/- The walks over the reference of records: lists alike. -/
namespace Go.Proofs.YtojaagnfjenhoaaGreat
open Go.RowKit
set_option maxRecDepth 100000 in
theorem rsame_txn (l m : List Rc.TxnAt) (hn : l.length ≤ 140737488355328) (_hm : m.length ≤ 140737488355328) (A A' : Option Addr) (c c' : Nat) (w : World) (hr : TxR w A c l) (hr' : TxR w A' c' m) :
    Calls Tryz.prog 36 #[.slice A l.length c, .slice A' m.length c'] w fun e w' => e = .returned (.bool (decide (l = m))) ∧ Below w.heap.size w w' := by
  have HR := Lib.hid hr
  have HR' := Lib.hid hr'
  obtain ⟨b, hb⟩ : ∃ b, b = decide (l = m) := ⟨_, rfl⟩
  rw [← hb]
  have HB := Lib.hid hb
  clear hr hr' hb
  go_enter Tryz.func36, Tryz.ntmps36
  go_wp2_with fail
  go_loopw [5] (fun i wr => ∃ k : Nat, k ≤ l.length ∧ k ≤ m.length ∧ i = .int .i64 k ∧ (∀ j (hj : j < l.length) (hj' : j < m.length), j < k → l[j] = m[j]) ∧ Below w.heap.size w wr) (fun i _ => l.length - (intOf i).toNat)
  case atStart => exact ⟨0, Nat.zero_le _, Nat.zero_le _, rfl, fun _ _ _ h => absurd h (by omega), Below.refl _ _⟩
  case round =>
    obtain ⟨k, hk, hkm, rfl, hall, hbw⟩ := hrel
    have HA := Lib.hid hall
    clear hall
    by_cases hl1 : k < l.length
    · have hi3 : decide (k < l.length) = true := decide_eq_true hl1
      by_cases hl2 : k < m.length
      · have hi4 : decide (k < m.length) = true := decide_eq_true hl2
        obtain ⟨b1, off, rfl, hc, hbl, hcell⟩ := read_at txC_len (HR.out.below hbw) hl1
        obtain ⟨b2, off2, rfl, hc2, hbl2, hcell2⟩ := read_at txC_len (HR'.out.below hbw) hl2
        have q0 := hcell 0 _ rfl
        have r0 := hcell2 0 _ rfl
        have q1 := hcell 1 _ rfl
        have r1 := hcell2 1 _ rfl
        have q2 := hcell 2 _ rfl
        have r2 := hcell2 2 _ rfl
        have q3 := hcell 3 _ rfl
        have r3 := hcell2 3 _ rfl
        clear hcell hcell2
        simp only [Nat.add_zero] at q0 r0
        have HN := Lib.hid (show l[k] ≠ m[k] → b = false from fun h => HB.out.trans (Rc.eq_no hl1 hl2 h))
        have HY := Lib.hid (show l[k] = m[k] → ∀ j (hj : j < l.length) (hj' : j < m.length), j < k + 1 → l[j] = m[j] from fun h j hj hj' hjk => by
          rcases Nat.lt_or_eq_of_le (Nat.le_of_lt_succ hjk) with h1 | h1
          · exact HA.out j hj hj' h1
          · subst h1; exact h)
        have HE := Lib.hid (fun W => txn_equal l[k] m[k] W)
        clear hc hc2 HA
        generalize l[k] = x at q0 q1 q2 q3 HN HY HE
        generalize m[k] = y at r0 r1 r2 r3 HN HY HE
        have hj1 : (0 : Int) ≤ (k : Int) := by omega
        have hj2 : (k : Int) < (l.length : Int) := by omega
        have hj3 : (k : Int) < (m.length : Int) := by omega
        cases hd : decide (x = y) with
        | true =>
          have HY2 := Lib.hid (HY.out (of_decide_eq_true hd))
          have heq := HE.out
          rw [hd] at heq
          clear HN HY hd HE
          obtain ⟨xfa, xfb, xfc, xfd⟩ := x
          obtain ⟨yfa, yfb, yfc, yfd⟩ := y
          go_upto_region 4 with (fail)
          go_quiet (fail)
          go_wp2_with fail
          go_roundw
          case rel => exact ⟨k + 1, by omega, by omega, by go_num, HY2.out, joinB hbw (drewB _ _)⟩
          case measure => simp [intOf]; omega
        | false =>
          have HN2 := Lib.hid (HN.out (of_decide_eq_false hd))
          have heq := HE.out
          rw [hd] at heq
          clear HN HY hd HE
          obtain ⟨xfa, xfb, xfc, xfd⟩ := x
          obtain ⟨yfa, yfb, yfc, yfd⟩ := y
          go_upto_region 4 with (fail)
          go_quiet (fail)
          go_wp2_with fail
          go_ret
          exact ⟨by rw [HN2.out]; rfl, joinB hbw (drewB _ _)⟩
      · have hi4 : decide (k < m.length) = false := decide_eq_false hl2
        have hne3 : (l.length == m.length) = false := by simp; omega
        have hne4 : ((l.length : Int) == (m.length : Int)) = false := by simp; omega
        have HN2 := Lib.hid (HB.out.trans (decide_eq_false (fun e => by rw [e] at hl1; exact hl2 hl1)))
        go_wp2_with fail
        go_ret
        exact ⟨by rw [HN2.out]; simp; try omega, hbw⟩
    · have hi3 : decide (k < l.length) = false := decide_eq_false hl1
      obtain rfl : k = l.length := by omega
      by_cases hlm : l.length = m.length
      · have HE := Lib.hid (show b = true from HB.out.trans (Rc.eq_yes hlm fun j hj hj' => HA.out j hj hj' hj))
        have hne3 : (l.length == m.length) = true := by simp [hlm]
        have hne4 : ((l.length : Int) == (m.length : Int)) = true := by simp [hlm]
        have HLM := Lib.hid hlm
        clear hlm
        go_wp2_with fail
        go_ret
        exact ⟨by rw [HE.out]; have hlm := HLM.out; simp [hlm], hbw⟩
      · have hne3 : (l.length == m.length) = false := by simp; omega
        have hne4 : ((l.length : Int) == (m.length : Int)) = false := by simp; omega
        have HN2 := Lib.hid (HB.out.trans (decide_eq_false (fun e => hlm (by rw [e]))))
        go_wp2_with fail
        go_ret
        exact ⟨by rw [HN2.out]; simp; try omega, hbw⟩
set_option maxRecDepth 100000 in
theorem rsame_dirty (l m : List Rc.DirtyAt) (hn : l.length ≤ 140737488355328) (_hm : m.length ≤ 140737488355328) (A A' : Option Addr) (c c' : Nat) (w : World) (hr : DiR w A c l) (hr' : DiR w A' c' m) :
    Calls Tryz.prog 37 #[.slice A l.length c, .slice A' m.length c'] w fun e w' => e = .returned (.bool (decide (l = m))) ∧ Below w.heap.size w w' := by
  have HR := Lib.hid hr
  have HR' := Lib.hid hr'
  obtain ⟨b, hb⟩ : ∃ b, b = decide (l = m) := ⟨_, rfl⟩
  rw [← hb]
  have HB := Lib.hid hb
  clear hr hr' hb
  go_enter Tryz.func37, Tryz.ntmps37
  go_wp2_with fail
  go_loopw [5] (fun i wr => ∃ k : Nat, k ≤ l.length ∧ k ≤ m.length ∧ i = .int .i64 k ∧ (∀ j (hj : j < l.length) (hj' : j < m.length), j < k → l[j] = m[j]) ∧ Below w.heap.size w wr) (fun i _ => l.length - (intOf i).toNat)
  case atStart => exact ⟨0, Nat.zero_le _, Nat.zero_le _, rfl, fun _ _ _ h => absurd h (by omega), Below.refl _ _⟩
  case round =>
    obtain ⟨k, hk, hkm, rfl, hall, hbw⟩ := hrel
    have HA := Lib.hid hall
    clear hall
    by_cases hl1 : k < l.length
    · have hi3 : decide (k < l.length) = true := decide_eq_true hl1
      by_cases hl2 : k < m.length
      · have hi4 : decide (k < m.length) = true := decide_eq_true hl2
        obtain ⟨b1, off, rfl, hc, hbl, hcell⟩ := read_at diC_len (HR.out.below hbw) hl1
        obtain ⟨b2, off2, rfl, hc2, hbl2, hcell2⟩ := read_at diC_len (HR'.out.below hbw) hl2
        have q0 := hcell 0 _ rfl
        have r0 := hcell2 0 _ rfl
        have q1 := hcell 1 _ rfl
        have r1 := hcell2 1 _ rfl
        clear hcell hcell2
        simp only [Nat.add_zero] at q0 r0
        have HN := Lib.hid (show l[k] ≠ m[k] → b = false from fun h => HB.out.trans (Rc.eq_no hl1 hl2 h))
        have HY := Lib.hid (show l[k] = m[k] → ∀ j (hj : j < l.length) (hj' : j < m.length), j < k + 1 → l[j] = m[j] from fun h j hj hj' hjk => by
          rcases Nat.lt_or_eq_of_le (Nat.le_of_lt_succ hjk) with h1 | h1
          · exact HA.out j hj hj' h1
          · subst h1; exact h)
        have HE := Lib.hid (fun W => dirty_equal l[k] m[k] W)
        clear hc hc2 HA
        generalize l[k] = x at q0 q1 HN HY HE
        generalize m[k] = y at r0 r1 HN HY HE
        have hj1 : (0 : Int) ≤ (k : Int) := by omega
        have hj2 : (k : Int) < (l.length : Int) := by omega
        have hj3 : (k : Int) < (m.length : Int) := by omega
        cases hd : decide (x = y) with
        | true =>
          have HY2 := Lib.hid (HY.out (of_decide_eq_true hd))
          have heq := HE.out
          rw [hd] at heq
          clear HN HY hd HE
          obtain ⟨xfa, xfb⟩ := x
          obtain ⟨yfa, yfb⟩ := y
          go_upto_region 4 with (fail)
          go_quiet (fail)
          go_wp2_with fail
          go_roundw
          case rel => exact ⟨k + 1, by omega, by omega, by go_num, HY2.out, joinB hbw (drewB _ _)⟩
          case measure => simp [intOf]; omega
        | false =>
          have HN2 := Lib.hid (HN.out (of_decide_eq_false hd))
          have heq := HE.out
          rw [hd] at heq
          clear HN HY hd HE
          obtain ⟨xfa, xfb⟩ := x
          obtain ⟨yfa, yfb⟩ := y
          go_upto_region 4 with (fail)
          go_quiet (fail)
          go_wp2_with fail
          go_ret
          exact ⟨by rw [HN2.out]; rfl, joinB hbw (drewB _ _)⟩
      · have hi4 : decide (k < m.length) = false := decide_eq_false hl2
        have hne3 : (l.length == m.length) = false := by simp; omega
        have hne4 : ((l.length : Int) == (m.length : Int)) = false := by simp; omega
        have HN2 := Lib.hid (HB.out.trans (decide_eq_false (fun e => by rw [e] at hl1; exact hl2 hl1)))
        go_wp2_with fail
        go_ret
        exact ⟨by rw [HN2.out]; simp; try omega, hbw⟩
    · have hi3 : decide (k < l.length) = false := decide_eq_false hl1
      obtain rfl : k = l.length := by omega
      by_cases hlm : l.length = m.length
      · have HE := Lib.hid (show b = true from HB.out.trans (Rc.eq_yes hlm fun j hj hj' => HA.out j hj hj' hj))
        have hne3 : (l.length == m.length) = true := by simp [hlm]
        have hne4 : ((l.length : Int) == (m.length : Int)) = true := by simp [hlm]
        have HLM := Lib.hid hlm
        clear hlm
        go_wp2_with fail
        go_ret
        exact ⟨by rw [HE.out]; have hlm := HLM.out; simp [hlm], hbw⟩
      · have hne3 : (l.length == m.length) = false := by simp; omega
        have hne4 : ((l.length : Int) == (m.length : Int)) = false := by simp; omega
        have HN2 := Lib.hid (HB.out.trans (decide_eq_false (fun e => hlm (by rw [e]))))
        go_wp2_with fail
        go_ret
        exact ⟨by rw [HN2.out]; simp; try omega, hbw⟩
end Go.Proofs.YtojaagnfjenhoaaGreat
namespace Rc
instance : DecidableEq Rec := fun a b =>
  if h : a.lsn = b.lsn ∧ a.prev = b.prev ∧ a.txn = b.txn ∧ a.kind = b.kind ∧ a.page = b.page ∧ a.next = b.next ∧ a.num = b.num ∧ a.op = b.op ∧ a.how = b.how ∧ a.root = b.root ∧ a.e = b.e ∧ a.txns = b.txns ∧ a.dirty = b.dirty then
    .isTrue (by
      obtain ⟨a1, a2, a3, a4, a5, a6, a7, a8, a9, a10, a11, a12, a13⟩ := a
      obtain ⟨b1, b2, b3, b4, b5, b6, b7, b8, b9, b10, b11, b12, b13⟩ := b
      simp only at h
      obtain ⟨rfl, rfl, rfl, rfl, rfl, rfl, rfl, rfl, rfl, rfl, rfl, rfl, rfl⟩ := h
      rfl)
  else .isFalse (fun e => h (by subst e; exact ⟨rfl, rfl, rfl, rfl, rfl, rfl, rfl, rfl, rfl, rfl, rfl, rfl, rfl⟩))
end Rc
namespace Go.Proofs.YtojaagnfjenhoaaGreat
open Go.RowKit
theorem new21 (w : World) (o1 o2 : Obj) : ((w.alloc o1).alloc o2).heap[w.heap.size]? = some o1 := by
  rw [Below.heap_alloc _ _ _ (by simp)]; exact heap_alloc_new w o1
/-- A record with its lists, in memory. -/
structure RecR (w : World) (r : Rc.Rec) (A : Option Addr) (c : Nat) (B : Option Addr) (d : Nat) : Prop where
  txns : TxR w A c r.txns
  dirty : DiR w B d r.dirty
  small : r.txns.length ≤ 140737488355328 ∧ r.dirty.length ≤ 140737488355328
theorem RecR.below {w w' : World} {r : Rc.Rec} {A : Option Addr} {c : Nat} {B : Option Addr} {d : Nat} (h : RecR w r A c B d) (hb : Below w.heap.size w w') : RecR w' r A c B d := ⟨h.txns.below hb, h.dirty.below hb, h.small⟩
end Go.Proofs.YtojaagnfjenhoaaGreat
/- The walk over package rec: a reader's record: its boxes, and what each num and text does to them. -/
namespace Rc
theorem numM_le {l : List UInt8} {st st' : St} {k : Nat} {n : Int} (h : numM true l st k = (n, st')) : st'.at_ ≤ st.at_ + k := by
  unfold numM at h
  split at h
  · injection h with h1 h2; subst h2; exact Nat.le_refl _
  · injection h with h1 h2; subst h2; exact Nat.le_refl _
theorem textM_le {l : List UInt8} {st st' : St} {t : ByteArray} (h : textM l st = (t, st')) : st'.at_ ≤ st.at_ + l.length := by
  unfold textM at h
  split at h
  · rename_i h0
    injection h with h1 h2; subst h2; show _ + 2 + _ ≤ _; omega
  · injection h with h1 h2; subst h2; exact Nat.le_add_right _ _
theorem numM_in {l : List UInt8} {st st' : St} {k : Nat} {n : Int} {adv : Bool} (h : numM adv l st k = (n, st')) (hb : st'.bad = false) : st'.at_ ≤ l.length ∧ st.bad = false := by
  unfold numM at h
  split at h
  · rename_i h0
    injection h with h1 h2; subst h2; exact ⟨h0, hb⟩
  · injection h with h1 h2; subst h2; cases hb
theorem numM_nat {l : List UInt8} {st st' : St} {k : Nat} {n : Int} {adv : Bool} (h : numM adv l st k = (n, st')) : 0 ≤ n ∧ n < ((256 ^ k : Nat) : Int) := by
  have h0 : Oct.getN l st.at_ k < 256 ^ k := by
    have h1 := Oct.getL_lt ((l.drop st.at_).take k)
    have h2 : 256 ^ ((l.drop st.at_).take k).length ≤ 256 ^ k := Nat.pow_le_pow_right (by omega) (by rw [List.length_take]; omega)
    unfold Oct.getN; omega
  unfold numM at h
  split at h
  · injection h with h1 h2; subst h1; omega
  · injection h with h1 h2; subst h1
    have : 0 < 256 ^ k := Nat.pow_pos (by omega)
    omega
end Rc
namespace Go.Proofs.YtojaagnfjenhoaaGreat
open Go.RowKit
/-- A record without anything, in memory. -/
abbrev zeroA : Array Value := #[.int .i64 0, .int .i64 0, .int .i64 0, .int .i64 0, .int .i64 0, .int .i64 0, .int .i64 0, .int .i64 0, .int .i64 0, .string ⟨#[]⟩, .string ⟨#[]⟩, .int .i64 0, .int .i64 0, .string ⟨#[]⟩, .int .i64 0, .int .i64 0, .slice none 0 0, .slice none 0 0]
/-- The boxes of a reader's record: the reader, the result, the record, (behind the head) its form. -/
structure Rd (w : World) (b : Nat) (s : ByteArray) (st : Rc.St) (X : Array Value) (f : Nat) (F : Array Value) (u : World) : Prop where
  rd : u.heap[b]? = some (.cells (rdC s st.at_ st.bad) 102 (0, 0))
  br : u.heap[w.heap.size]? = some (.cells zeroA 42 (0, 0))
  bx : u.heap[w.heap.size + 1]? = some (.cells X 42 (0, 0))
  bf : f = w.heap.size ∨ w.heap.size + 1 < f ∧ u.heap[f]? = some (.cells F 110 (0, 0))
  bw : b < w.heap.size
  kept : KeptB w.heap.size b w u
theorem Rd.size {w u : World} {b f : Nat} {s : ByteArray} {st : Rc.St} {X F : Array Value} (h : Rd w b s st X f F u) : w.heap.size + 2 ≤ u.heap.size := heapLt h.bx
theorem Rd.turn {w u v : World} {b f : Nat} {s : ByteArray} {st st' : Rc.St} {X F : Array Value} (h : Rd w b s st X f F u) (hr : v.heap[b]? = some (.cells (rdC s st'.at_ st'.bad) 102 (0, 0))) (hk : KeptB u.heap.size b u v) : Rd w b s st' X f F v := by
  have hs := h.size
  have hw := h.bw
  refine ⟨hr, (hk.block _ (by omega) (by omega)).trans h.br, (hk.block _ (by omega) (by omega)).trans h.bx, ?_, hw, h.kept.trans ⟨hk.os, hk.tape, hk.output, hk.size, fun k hk1 hk2 => hk.block k (by omega) hk2⟩⟩
  rcases h.bf with h1 | ⟨h1, h2⟩
  · exact .inl h1
  · exact .inr ⟨h1, (hk.block _ (heapLt h2) (by omega)).trans h2⟩
theorem Rd.step {w u v : World} {b f : Nat} {s : ByteArray} {st : Rc.St} {X F : Array Value} (h : Rd w b s st X f F u) (hb : Below u.heap.size u v) : Rd w b s st X f F v :=
  h.turn (blkOld h.rd hb) ⟨hb.os, hb.tape, hb.output, hb.size, fun k hk _ => hb.block k hk⟩
theorem Rd.drew {w u : World} {b f : Nat} {s : ByteArray} {st : Rc.St} {X F : Array Value} (h : Rd w b s st X f F u) : Rd w b s st X f F u.drew := h.step (Below.refl _ _).drew
theorem Rd.set {w u : World} {b f : Nat} {s : ByteArray} {st : Rc.St} {X F : Array Value} (h : Rd w b s st X f F u) (i : Nat) (v : Value) : Rd w b s st (X.setIfInBounds i v) f F (u.setCell ⟨w.heap.size + 1, i, none⟩ v) := by
  have hw := h.bw
  have hh : ∀ k, k ≠ w.heap.size + 1 → (u.setCell ⟨w.heap.size + 1, i, none⟩ v).heap[k]? = u.heap[k]? := fun k hk => Below.heap_setCell _ _ _ _ hk
  refine ⟨(hh _ (by omega)).trans h.rd, (hh _ (by omega)).trans h.br, blkSet i h.bx v, ?_, hw, h.kept.trans ⟨rfl, rfl, rfl, by simp [World.setCell], fun k hk1 hk2 => hh k (by omega)⟩⟩
  rcases h.bf with h1 | ⟨h1, h2⟩
  · exact .inl h1
  · exact .inr ⟨h1, (hh _ (by omega)).trans h2⟩
theorem Rd.form {w u : World} {b f : Nat} {s : ByteArray} {st : Rc.St} {X F : Array Value} (h : Rd w b s st X f F u) (hf : w.heap.size < f) : u.heap[f]? = some (.cells F 110 (0, 0)) := by
  rcases h.bf with h1 | ⟨h1, h2⟩
  · omega
  · exact h2
theorem Rd.formed {w u : World} {b f : Nat} {s : ByteArray} {st : Rc.St} {X F : Array Value} (h : Rd w b s st X f F u) (G : Array Value) : Rd w b s st X u.heap.size G (u.alloc (.cells G 110)) := by
  have hs := h.size
  have h1 := h.step (allocB u (.cells G 110))
  exact ⟨h1.rd, h1.br, h1.bx, .inr ⟨by omega, heap_alloc_new u _⟩, h1.bw, h1.kept⟩
theorem rd_new {w : World} {b : Nat} {s : ByteArray} {st : Rc.St} (hb : w.heap[b]? = some (.cells (rdC s st.at_ st.bad) 102 (0, 0))) :
    Rd w b s st zeroA w.heap.size #[] ((w.alloc (.cells zeroA 42)).alloc (.cells zeroA 42)) :=
  ⟨blkOld hb (pastAlloc (allocB _ _)), new21 _ _ _, by simpa using new2 w _ _, .inl rfl, heapLt hb, KeptB.of_below (Nat.le_refl _) (pastAlloc (allocB _ _))⟩
theorem Rd.num {w u : World} {b f : Nat} {s : ByteArray} {st st' : Rc.St} {X F : Array Value} {n : Int} (h : Rd w b s st X f F u) (k : Nat) (h1 : 1 ≤ k) (h6 : k ≤ 6) (hn : Rc.numM true s.data.toList st k = (n, st')) (hm : s.size ≤ 1000000) (ha : st.at_ ≤ 2000000000) :
    Calls Tryz.prog 92 #[.pointer (some ⟨b, 0, none⟩), .int .i64 (k : Int)] u fun e v => e = .returned (.int .i64 n) ∧ Rd w b s st' X f F v := by
  refine (rnum_any b s st k h1 h6 (by omega) ha u h.rd).mono ?_
  rintro e v ⟨rfl, h2, h3⟩
  rw [hn] at h2 ⊢
  exact ⟨rfl, h.turn h2 h3⟩
theorem Rd.num1 {w u : World} {b f : Nat} {s : ByteArray} {st st' : Rc.St} {X F : Array Value} {n : Int} (h : Rd w b s st X f F u) (hn : Rc.numM true s.data.toList st 1 = (n, st')) (hm : s.size ≤ 1000000) (ha : st.at_ ≤ 2000000000) :
    Calls Tryz.prog 92 #[.pointer (some ⟨b, 0, none⟩), .int .i64 1] u fun e v => e = .returned (.int .i64 n) ∧ Rd w b s st' X f F v := h.num 1 (by omega) (by omega) hn hm ha
theorem Rd.num2 {w u : World} {b f : Nat} {s : ByteArray} {st st' : Rc.St} {X F : Array Value} {n : Int} (h : Rd w b s st X f F u) (hn : Rc.numM true s.data.toList st 2 = (n, st')) (hm : s.size ≤ 1000000) (ha : st.at_ ≤ 2000000000) :
    Calls Tryz.prog 92 #[.pointer (some ⟨b, 0, none⟩), .int .i64 2] u fun e v => e = .returned (.int .i64 n) ∧ Rd w b s st' X f F v := h.num 2 (by omega) (by omega) hn hm ha
theorem Rd.num3 {w u : World} {b f : Nat} {s : ByteArray} {st st' : Rc.St} {X F : Array Value} {n : Int} (h : Rd w b s st X f F u) (hn : Rc.numM true s.data.toList st 3 = (n, st')) (hm : s.size ≤ 1000000) (ha : st.at_ ≤ 2000000000) :
    Calls Tryz.prog 92 #[.pointer (some ⟨b, 0, none⟩), .int .i64 3] u fun e v => e = .returned (.int .i64 n) ∧ Rd w b s st' X f F v := h.num 3 (by omega) (by omega) hn hm ha
theorem Rd.num6 {w u : World} {b f : Nat} {s : ByteArray} {st st' : Rc.St} {X F : Array Value} {n : Int} (h : Rd w b s st X f F u) (hn : Rc.numM true s.data.toList st 6 = (n, st')) (hm : s.size ≤ 1000000) (ha : st.at_ ≤ 2000000000) :
    Calls Tryz.prog 92 #[.pointer (some ⟨b, 0, none⟩), .int .i64 6] u fun e v => e = .returned (.int .i64 n) ∧ Rd w b s st' X f F v := h.num 6 (by omega) (by omega) hn hm ha
/-- A record whose lists, if there are any, lie in memory from block n on. -/
structure RecN (n : Nat) (w : World) (r : Rc.Rec) (A : Option Addr) (c : Nat) (B : Option Addr) (d : Nat) : Prop where
  rr : RecR w r A c B d
  ta : NewT n w 106 A
  tb : NewT n w 108 B
theorem RecN.mono {n m : Nat} {w : World} {r : Rc.Rec} {A B : Option Addr} {c d : Nat} (h : RecN n w r A c B d) (hm : m ≤ n) : RecN m w r A c B d := ⟨h.rr, h.ta.mono hm, h.tb.mono hm⟩
theorem RecN.below {n : Nat} {w w' : World} {r : Rc.Rec} {A B : Option Addr} {c d : Nat} (h : RecN n w r A c B d) (hb : Below w.heap.size w w') : RecN n w' r A c B d := ⟨h.rr.below hb, h.ta.below hb, h.tb.below hb⟩
/-- Some blocks turn, none of which the record has. -/
theorem RecN.turn {n : Nat} {w v : World} {r : Rc.Rec} {A B : Option Addr} {c d : Nat} (h : RecN n w r A c B d) (hs : w.heap.size ≤ v.heap.size) (hk : ∀ k cs T fr, n ≤ k → w.heap[k]? = some (.cells cs T fr) → T = 106 ∨ T = 108 → v.heap[k]? = w.heap[k]?) : RecN n v r A c B d := by
  refine ⟨⟨fun h0 => ?_, fun h0 => ?_, h.rr.small⟩, fun ad e => ?_, fun ad e => ?_⟩
  · obtain ⟨g, off, e1, e2, e3, e4⟩ := h.rr.txns h0
    obtain ⟨h1, cs, fr, h2⟩ := h.ta _ e1
    refine ⟨g, off, e1, e2, Nat.lt_of_lt_of_le e3 hs, fun j u hj => ?_⟩
    have := e4 j u hj
    unfold World.cell? at this ⊢
    rw [hk _ _ _ _ h1 h2 (.inl rfl)]
    exact this
  · obtain ⟨g, off, e1, e2, e3, e4⟩ := h.rr.dirty h0
    obtain ⟨h1, cs, fr, h2⟩ := h.tb _ e1
    refine ⟨g, off, e1, e2, Nat.lt_of_lt_of_le e3 hs, fun j u hj => ?_⟩
    have := e4 j u hj
    unfold World.cell? at this ⊢
    rw [hk _ _ _ _ h1 h2 (.inr rfl)]
    exact this
  · obtain ⟨h1, cs, fr, h2⟩ := h.ta ad e
    exact ⟨h1, cs, fr, (hk _ _ _ _ h1 h2 (.inl rfl)).trans h2⟩
  · obtain ⟨h1, cs, fr, h2⟩ := h.tb ad e
    exact ⟨h1, cs, fr, (hk _ _ _ _ h1 h2 (.inr rfl)).trans h2⟩
/-- A store into a block of another kind, or into an older one. -/
theorem RecN.row {n : Nat} {w : World} {r : Rc.Rec} {A B : Option Addr} {c d : Nat} (h : RecN n w r A c B d) (b : Nat) (cs : Array Value) (hb : b < n) : RecN n (w.setRow b cs) r A c B d :=
  h.turn (by show _ ≤ (w.heap.modify _ _).size; simp) (fun k _ _ _ hk _ _ => heap_setRow_other _ _ _ _ (by omega))
theorem RecN.set {n : Nat} {w : World} {r : Rc.Rec} {A B : Option Addr} {c d : Nat} (h : RecN n w r A c B d) (b j : Nat) (v : Value) (hb : b < n) : RecN n (w.setCell ⟨b, j, none⟩ v) r A c B d :=
  h.turn (by simp [World.setCell]) (fun k _ _ _ hk _ _ => Below.heap_setCell _ _ _ _ (by show k ≠ b; omega))
theorem RecN.other {n : Nat} {w : World} {r : Rc.Rec} {A B : Option Addr} {c d : Nat} (h : RecN n w r A c B d) {b : Nat} {cur : Array Value} {T : TypeId} {fr : Nat × Nat} (hb : w.heap[b]? = some (.cells cur T fr)) (h1 : T ≠ 106) (h2 : T ≠ 108) (cs : Array Value) : RecN n (w.setRow b cs) r A c B d :=
  h.turn (by show _ ≤ (w.heap.modify _ _).size; simp) (fun k cs' T' fr' _ hk hT => heap_setRow_other _ _ _ _ (fun e => by
    subst e
    rw [hb] at hk
    injection hk with hk
    injection hk with _ hk
    rcases hT with h3 | h3
    · exact h1 (hk.trans h3)
    · exact h2 (hk.trans h3)))
/-- A row of another kind grows. -/
theorem RecN.grown {n m size B0 : Nat} {w w' : World} {r : Rc.Rec} {A B : Option Addr} {c d : Nat} {e : TypeId} {v : Value} {xs : List Value} (h : RecN n w r A c B d) (ho : w.ownsRow B0 e size v m xs) (h1 : e ≠ 106) (h2 : e ≠ 108) (hg : w.grownBy w' v.ownBlock) : RecN n w' r A c B d :=
  h.turn hg.size (fun k cs' T' fr' _ hk hT => hg.block k (heapLt hk) (fun e1 => ownApart ho hk (fun e2 => by
    rcases hT with h3 | h3
    · exact h1 (e2.trans h3)
    · exact h2 (e2.trans h3)) e1.symm))
/-- What record returns. -/
def RecOut (r : Rc.Rec) (b : Nat) (w : World) (e : Ending) (w' : World) : Prop :=
  ∃ A c B d, e = .returned (recV r (.slice A r.txns.length c) (.slice B r.dirty.length d)) ∧ RecN w.heap.size w' r A c B d ∧ KeptB w.heap.size b w w'
theorem Rd.text {w u : World} {b f : Nat} {s : ByteArray} {st st' : Rc.St} {X F : Array Value} {t : ByteArray} (h : Rd w b s st X f F u) (hn : Rc.textM s.data.toList st = (t, st')) (hm : s.size ≤ 1000000) (ha : st.at_ ≤ 2000000000) :
    Calls Tryz.prog 93 #[.pointer (some ⟨b, 0, none⟩)] u fun e v => e = .returned (.string t) ∧ Rd w b s st' X f F v := by
  refine (rtext_any b s st (by omega) ha u h.rd).mono ?_
  rintro e v ⟨rfl, h2, h3⟩
  rw [hn] at h2 ⊢
  exact ⟨rfl, h.turn h2 h3⟩
theorem heap_setRow_ne (w : World) (b : Nat) (cs : Array Value) (k : Nat) (h : k ≠ b) : (w.setRow b cs).heap[k]? = w.heap[k]? := by
  show (w.heap.modify b _)[k]? = _
  rw [Array.getElem?_modify, if_neg (fun e => h e.symm)]
theorem Rd.done {w u : World} {b f : Nat} {s : ByteArray} {st : Rc.St} {X F : Array Value} (h : Rd w b s st X f F u) : (u.setRow w.heap.size X).heap[w.heap.size]? = some (.cells X 42 (0, 0)) ∧ KeptB w.heap.size b w (u.setRow w.heap.size X) :=
  ⟨setRow_heap _ _ _ _ _ _ h.br, h.kept.trans ⟨rfl, rfl, rfl, by show _ ≤ (u.heap.modify _ _).size; simp, fun k hk _ => heap_setRow_ne _ _ _ _ (by omega)⟩⟩
end Go.Proofs.YtojaagnfjenhoaaGreat
/- The walk over package rec: a reader's record, of kinds without more. -/
namespace Go.Proofs.YtojaagnfjenhoaaGreat
open Go.RowKit
set_option maxRecDepth 100000 in
set_option maxHeartbeats 2000000 in
theorem record_other (b : Nat) (s : ByteArray) (hm : s.size ≤ 1000000) (s1 : Rc.St) (kd : Int) (hk2 : kd ≠ 2) (hk3 : kd ≠ 3) (hk4 : kd ≠ 4) (hk8 : kd ≠ 8) (hk9 : kd ≠ 9) (h0 : Rc.numM true s.data.toList ⟨0, false⟩ 1 = (kd, s1)) (w : World) (hb : w.heap[b]? = some (.cells (rdC s 0 false) 102 (0, 0))) :
    Calls Tryz.prog 59 #[.pointer (some ⟨b, 0, none⟩)] w (RecOut (Rc.readM true s.data.toList) b w) := by
  have hl : s.data.toList.length = s.size := by simp
  have a1 : s1.at_ ≤ 1 := Rc.numM_le h0
  have C0 := Lib.hid (fun X f F u (hu : Rd w b s ⟨0, false⟩ X f F u) => hu.num1 h0 hm (by show 0 ≤ _; omega))
  rcases h1 : Rc.numM true s.data.toList s1 6 with ⟨lsn, s2⟩
  have a2 : s2.at_ ≤ s1.at_ + 6 := Rc.numM_le h1
  have C1 := Lib.hid (fun X f F u (hu : Rd w b s s1 X f F u) => hu.num6 h1 hm (by omega))
  rcases h2 : Rc.numM true s.data.toList s2 6 with ⟨prev, s3⟩
  have a3 : s3.at_ ≤ s2.at_ + 6 := Rc.numM_le h2
  have C2 := Lib.hid (fun X f F u (hu : Rd w b s s2 X f F u) => hu.num6 h2 hm (by omega))
  rcases h3 : Rc.numM true s.data.toList s3 6 with ⟨txn, s4⟩
  have a4 : s4.at_ ≤ s3.at_ + 6 := Rc.numM_le h3
  have C3 := Lib.hid (fun X f F u (hu : Rd w b s s3 X f F u) => hu.num6 h3 hm (by omega))
  have e0 : Rc.headM true s.data.toList = (Rc.bare kd lsn prev txn, s4) := by
    unfold Rc.headM; simp only [h0, h1, h2, h3]
  have RD : Rc.readM true s.data.toList = Rc.bare kd lsn prev txn := by
    unfold Rc.readM
    rw [e0]
    show Rc.restM true _ (Rc.bare kd lsn prev txn) s4 = _
    unfold Rc.restM
    have hkk : (Rc.bare kd lsn prev txn).kind = kd := rfl
    rw [hkk, if_neg hk2, if_neg hk3, if_neg hk4, if_neg hk8, if_neg hk9]
  obtain ⟨e, HOF⟩ : ∃ e, Hid (∀ W, Calls Tryz.prog 63 #[.int .i64 kd] W fun x W' => x = .returned (.tuple #[formV false false false false e, .bool e]) ∧ Below W.heap.size W W') := by
    refine ⟨decide (1 ≤ kd ∧ kd ≤ 9), Lib.hid (fun W => ?_)⟩
    have h := of_any kd W
    rw [show ofV kd = .tuple #[formV false false false false (decide (1 ≤ kd ∧ kd ≤ 9)), .bool (decide (1 ≤ kd ∧ kd ≤ 9))] from by unfold ofV; simp [hk2, hk3, hk4, hk8, hk9]] at h
    exact h
  clear hk2 hk3 hk4 hk8 hk9
  have RDH := Lib.hid RD
  clear RD
  have HX := Lib.hid (rd_new (st := ⟨0, false⟩) hb)
  clear hb e0 h0 a1 h1 a2 h2 a3 h3 a4
  go_enter Tryz.func59, Tryz.ntmps59
  go_upto_region 2 with fail
  obtain ⟨W0, hW0⟩ : ∃ W, W = (w.alloc (.cells (rcA 0 0 0 0 0 0 0 0 0 ⟨#[]⟩ ⟨#[]⟩ 0 0 ⟨#[]⟩ 0 0 (.slice none 0 0) (.slice none 0 0)) 42)).alloc (.cells (rcA 0 0 0 0 0 0 0 0 0 ⟨#[]⟩ ⟨#[]⟩ 0 0 ⟨#[]⟩ 0 0 (.slice none 0 0) (.slice none 0 0)) 42) := ⟨_, rfl⟩
  rw [← hW0] at HX ⊢
  clear hW0
  go_upto_region 3 with (first | (go_at_call 92; (with_reducible refine (C0.out _ _ _ _ HX.out).mono ?_); rintro e w1 ⟨rfl, hS1⟩; have hz1 := blkFrozen hS1.bx; have hy1 := blkCell hS1.bx))
  obtain ⟨U1, hU1⟩ : ∃ W, W = (w1.setCell ⟨w.heap.size + 1, 3, none⟩ (.int .i64 kd)) := ⟨_, rfl⟩
  have H1 : Hid (Rd w b s s1 (rcA 0 0 0 kd 0 0 0 0 0 ⟨#[]⟩ ⟨#[]⟩ 0 0 ⟨#[]⟩ 0 0 (.slice none 0 0) (.slice none 0 0)) w.heap.size #[] (w1.setCell ⟨w.heap.size + 1, 3, none⟩ (.int .i64 kd))) := Lib.hid (by have h := (hS1.set 3 (.int .i64 kd)); first | exact h | simpa using h)
  rw [← hU1] at H1 ⊢
  clear hU1 hS1 hz1 hy1 HX
  have hcx := blkCell H1.out.bx
  go_upto_region 4 with (go_at_call 63; (with_reducible refine (HOF.out _).mono ?_); rintro e w9 ⟨rfl, hb9⟩)
  have HF := Lib.hid ((H1.out.step hb9).formed #[.bool false, .bool false, .bool false, .bool false, .bool e])
  have hf : w.heap.size + 1 < w9.heap.size := by have h1 := H1.out.size; have h2 := hb9.size; omega
  obtain ⟨f, hfe⟩ : ∃ f, f = w9.heap.size := ⟨_, rfl⟩
  rw [← hfe] at HF hf ⊢
  obtain ⟨WF, hWF⟩ : ∃ W, W = w9.alloc (.cells #[.bool false, .bool false, .bool false, .bool false, .bool e] 110) := ⟨_, rfl⟩
  rw [← hWF] at HF ⊢
  clear hWF hfe hb9 hcx H1
  have hF := blkCell (HF.out.form (by omega))
  go_upto_region 5 with (first | (go_at_call 92; (with_reducible refine (C1.out _ _ _ _ HF.out).mono ?_); rintro e w2 ⟨rfl, hS2⟩; have hz2 := blkFrozen hS2.bx; have hy2 := blkCell hS2.bx) | (go_at_call 92; (with_reducible refine (C2.out _ _ _ _ hS2).mono ?_); rintro e w3 ⟨rfl, hS3⟩; have hz3 := blkFrozen hS3.bx; have hy3 := blkCell hS3.bx) | (go_at_call 92; (with_reducible refine (C3.out _ _ _ _ hS3).mono ?_); rintro e w4 ⟨rfl, hS4⟩; have hz4 := blkFrozen hS4.bx; have hy4 := blkCell hS4.bx))
  obtain ⟨U4, hU4⟩ : ∃ W, W = (((w4.setCell ⟨w.heap.size + 1, 0, none⟩ (.int .i64 lsn)).setCell ⟨w.heap.size + 1, 1, none⟩ (.int .i64 prev)).setCell ⟨w.heap.size + 1, 2, none⟩ (.int .i64 txn)) := ⟨_, rfl⟩
  have H4 : Hid (Rd w b s s4 (rcA lsn prev txn kd 0 0 0 0 0 ⟨#[]⟩ ⟨#[]⟩ 0 0 ⟨#[]⟩ 0 0 (.slice none 0 0) (.slice none 0 0)) f #[.bool false, .bool false, .bool false, .bool false, .bool e] (((w4.setCell ⟨w.heap.size + 1, 0, none⟩ (.int .i64 lsn)).setCell ⟨w.heap.size + 1, 1, none⟩ (.int .i64 prev)).setCell ⟨w.heap.size + 1, 2, none⟩ (.int .i64 txn))) := Lib.hid (by have h := (((hS4.set 0 (.int .i64 lsn)).set 1 (.int .i64 prev)).set 2 (.int .i64 txn)); first | exact h | simpa using h)
  rw [← hU4] at H4 ⊢
  clear hU4 hS4 hz4 hy4 hS3 hz3 hy3 hS2 hz2 hy2 HF hF
  have hF := blkCell (H4.out.form (by omega))
  go_upto_region 26 with fail
  clear hF
  go_wp2_with (first | (with_reducible refine listLoad (by kernel_rfl) 42 (.tmp 3) rfl (w.heap.size + 1) rfl (rcA lsn prev txn kd 0 0 0 0 0 ⟨#[]⟩ ⟨#[]⟩ 0 0 ⟨#[]⟩ 0 0 (.slice none 0 0) (.slice none 0 0)) _ H4.out.bx _ Tryz.underlying42 (by kernel_rfl) (by kernel_rfl) ?_) | (with_reducible refine listStore (by kernel_rfl) 42 (.tmp 2) (.tmp 124) rfl w.heap.size (rcA lsn prev txn kd 0 0 0 0 0 ⟨#[]⟩ ⟨#[]⟩ 0 0 ⟨#[]⟩ 0 0 (.slice none 0 0) (.slice none 0 0)) _ _ rfl rfl H4.out.br (by kernel_rfl) (by kernel_rfl) (by kernel_rfl) ?_))
  refine bodyPost_ret (v := .agg (rcA lsn prev txn kd 0 0 0 0 0 ⟨#[]⟩ ⟨#[]⟩ 0 0 ⟨#[]⟩ 0 0 (.slice none 0 0) (.slice none 0 0))) (results_cell rfl _ _ rfl (load_whole H4.out.done.1 Tryz.underlying42 (by kernel_rfl) (by kernel_rfl))) rfl ?_
  rw [RDH.out]
  exact ⟨none, 0, none, 0, rfl, ⟨⟨Reads.none_ _ _ _ _, Reads.none_ _ _ _ _, ⟨Nat.zero_le _, Nat.zero_le _⟩⟩, NewT.none_ _ _ _, NewT.none_ _ _ _⟩, H4.out.done.2⟩
end Go.Proofs.YtojaagnfjenhoaaGreat
/- The walk over package rec: a reader's record, of kind 4. -/
namespace Go.Proofs.YtojaagnfjenhoaaGreat
open Go.RowKit
set_option maxRecDepth 100000 in
set_option maxHeartbeats 2000000 in
theorem record_nest (b : Nat) (s : ByteArray) (hm : s.size ≤ 1000000) (s1 : Rc.St) (h0 : Rc.numM true s.data.toList ⟨0, false⟩ 1 = (4, s1)) (w : World) (hb : w.heap[b]? = some (.cells (rdC s 0 false) 102 (0, 0))) :
    Calls Tryz.prog 59 #[.pointer (some ⟨b, 0, none⟩)] w (RecOut (Rc.readM true s.data.toList) b w) := by
  have hl : s.data.toList.length = s.size := by simp
  have a1 : s1.at_ ≤ 1 := Rc.numM_le h0
  have C0 := Lib.hid (fun X f F u (hu : Rd w b s ⟨0, false⟩ X f F u) => hu.num1 h0 hm (by show 0 ≤ _; omega))
  rcases h1 : Rc.numM true s.data.toList s1 6 with ⟨lsn, s2⟩
  have a2 : s2.at_ ≤ s1.at_ + 6 := Rc.numM_le h1
  have C1 := Lib.hid (fun X f F u (hu : Rd w b s s1 X f F u) => hu.num6 h1 hm (by omega))
  rcases h2 : Rc.numM true s.data.toList s2 6 with ⟨prev, s3⟩
  have a3 : s3.at_ ≤ s2.at_ + 6 := Rc.numM_le h2
  have C2 := Lib.hid (fun X f F u (hu : Rd w b s s2 X f F u) => hu.num6 h2 hm (by omega))
  rcases h3 : Rc.numM true s.data.toList s3 6 with ⟨txn, s4⟩
  have a4 : s4.at_ ≤ s3.at_ + 6 := Rc.numM_le h3
  have C3 := Lib.hid (fun X f F u (hu : Rd w b s s3 X f F u) => hu.num6 h3 hm (by omega))
  rcases h4 : Rc.numM true s.data.toList s4 6 with ⟨nx, s5⟩
  have a5 : s5.at_ ≤ s4.at_ + 6 := Rc.numM_le h4
  have C4 := Lib.hid (fun X f F u (hu : Rd w b s s4 X f F u) => hu.num6 h4 hm (by omega))
  have e0 : Rc.headM true s.data.toList = (Rc.bare 4 lsn prev txn, s4) := by
    unfold Rc.headM; simp only [h0, h1, h2, h3]
  have RD : Rc.readM true s.data.toList = ⟨lsn, prev, txn, 4, 0, nx, 0, Rc.noOp, 0, 0, Rc.noKey, [], []⟩ := by
    unfold Rc.readM
    rw [e0]
    show Rc.restM true _ (Rc.bare 4 lsn prev txn) s4 = _
    rw [Rc.restM_4 rfl]
    simp only [h4]
    rfl
  have HOF := Lib.hid (fun W => of_any 4 W)
  rw [show ofV 4 = .tuple #[formV false false true false true, .bool true] from rfl] at HOF
  have RDH := Lib.hid RD
  clear RD
  have HX := Lib.hid (rd_new (st := ⟨0, false⟩) hb)
  clear hb e0 h0 a1 h1 a2 h2 a3 h3 a4 h4 a5
  go_enter Tryz.func59, Tryz.ntmps59
  go_upto_region 2 with fail
  obtain ⟨W0, hW0⟩ : ∃ W, W = (w.alloc (.cells (rcA 0 0 0 0 0 0 0 0 0 ⟨#[]⟩ ⟨#[]⟩ 0 0 ⟨#[]⟩ 0 0 (.slice none 0 0) (.slice none 0 0)) 42)).alloc (.cells (rcA 0 0 0 0 0 0 0 0 0 ⟨#[]⟩ ⟨#[]⟩ 0 0 ⟨#[]⟩ 0 0 (.slice none 0 0) (.slice none 0 0)) 42) := ⟨_, rfl⟩
  rw [← hW0] at HX ⊢
  clear hW0
  go_upto_region 3 with (first | (go_at_call 92; (with_reducible refine (C0.out _ _ _ _ HX.out).mono ?_); rintro e w1 ⟨rfl, hS1⟩; have hz1 := blkFrozen hS1.bx; have hy1 := blkCell hS1.bx))
  obtain ⟨U1, hU1⟩ : ∃ W, W = (w1.setCell ⟨w.heap.size + 1, 3, none⟩ (.int .i64 4)) := ⟨_, rfl⟩
  have H1 : Hid (Rd w b s s1 (rcA 0 0 0 4 0 0 0 0 0 ⟨#[]⟩ ⟨#[]⟩ 0 0 ⟨#[]⟩ 0 0 (.slice none 0 0) (.slice none 0 0)) w.heap.size #[] (w1.setCell ⟨w.heap.size + 1, 3, none⟩ (.int .i64 4))) := Lib.hid (by have h := (hS1.set 3 (.int .i64 4)); first | exact h | simpa using h)
  rw [← hU1] at H1 ⊢
  clear hU1 hS1 hz1 hy1 HX
  have hcx := blkCell H1.out.bx
  go_upto_region 4 with (go_at_call 63; (with_reducible refine (HOF.out _).mono ?_); rintro e w9 ⟨rfl, hb9⟩)
  have HF := Lib.hid ((H1.out.step hb9).formed #[.bool false, .bool false, .bool true, .bool false, .bool true])
  have hf : w.heap.size + 1 < w9.heap.size := by have h1 := H1.out.size; have h2 := hb9.size; omega
  obtain ⟨f, hfe⟩ : ∃ f, f = w9.heap.size := ⟨_, rfl⟩
  rw [← hfe] at HF hf ⊢
  obtain ⟨WF, hWF⟩ : ∃ W, W = w9.alloc (.cells #[.bool false, .bool false, .bool true, .bool false, .bool true] 110) := ⟨_, rfl⟩
  rw [← hWF] at HF ⊢
  clear hWF hfe hb9 hcx H1
  have hF := blkCell (HF.out.form (by omega))
  go_upto_region 5 with (first | (go_at_call 92; (with_reducible refine (C1.out _ _ _ _ HF.out).mono ?_); rintro e w2 ⟨rfl, hS2⟩; have hz2 := blkFrozen hS2.bx; have hy2 := blkCell hS2.bx) | (go_at_call 92; (with_reducible refine (C2.out _ _ _ _ hS2).mono ?_); rintro e w3 ⟨rfl, hS3⟩; have hz3 := blkFrozen hS3.bx; have hy3 := blkCell hS3.bx) | (go_at_call 92; (with_reducible refine (C3.out _ _ _ _ hS3).mono ?_); rintro e w4 ⟨rfl, hS4⟩; have hz4 := blkFrozen hS4.bx; have hy4 := blkCell hS4.bx))
  obtain ⟨U4, hU4⟩ : ∃ W, W = (((w4.setCell ⟨w.heap.size + 1, 0, none⟩ (.int .i64 lsn)).setCell ⟨w.heap.size + 1, 1, none⟩ (.int .i64 prev)).setCell ⟨w.heap.size + 1, 2, none⟩ (.int .i64 txn)) := ⟨_, rfl⟩
  have H4 : Hid (Rd w b s s4 (rcA lsn prev txn 4 0 0 0 0 0 ⟨#[]⟩ ⟨#[]⟩ 0 0 ⟨#[]⟩ 0 0 (.slice none 0 0) (.slice none 0 0)) f #[.bool false, .bool false, .bool true, .bool false, .bool true] (((w4.setCell ⟨w.heap.size + 1, 0, none⟩ (.int .i64 lsn)).setCell ⟨w.heap.size + 1, 1, none⟩ (.int .i64 prev)).setCell ⟨w.heap.size + 1, 2, none⟩ (.int .i64 txn))) := Lib.hid (by have h := (((hS4.set 0 (.int .i64 lsn)).set 1 (.int .i64 prev)).set 2 (.int .i64 txn)); first | exact h | simpa using h)
  rw [← hU4] at H4 ⊢
  clear hU4 hS4 hz4 hy4 hS3 hz3 hy3 hS2 hz2 hy2 HF hF
  have hF := blkCell (H4.out.form (by omega))
  go_upto_region 16 with (first | (go_at_call 92; (with_reducible refine (C4.out _ _ _ _ H4.out).mono ?_); rintro e w5 ⟨rfl, hS5⟩; have hz5 := blkFrozen hS5.bx; have hy5 := blkCell hS5.bx))
  obtain ⟨U5, hU5⟩ : ∃ W, W = (w5.setCell ⟨w.heap.size + 1, 5, none⟩ (.int .i64 nx)) := ⟨_, rfl⟩
  have H5 : Hid (Rd w b s s5 (rcA lsn prev txn 4 0 nx 0 0 0 ⟨#[]⟩ ⟨#[]⟩ 0 0 ⟨#[]⟩ 0 0 (.slice none 0 0) (.slice none 0 0)) f #[.bool false, .bool false, .bool true, .bool false, .bool true] (w5.setCell ⟨w.heap.size + 1, 5, none⟩ (.int .i64 nx))) := Lib.hid (by have h := (hS5.set 5 (.int .i64 nx)); first | exact h | simpa using h)
  rw [← hU5] at H5 ⊢
  clear hU5 hS5 hz5 hy5 H4 hF
  have hF := blkCell (H5.out.form (by omega))
  go_upto_region 26 with fail
  clear hF
  go_wp2_with (first | (with_reducible refine listLoad (by kernel_rfl) 42 (.tmp 3) rfl (w.heap.size + 1) rfl (rcA lsn prev txn 4 0 nx 0 0 0 ⟨#[]⟩ ⟨#[]⟩ 0 0 ⟨#[]⟩ 0 0 (.slice none 0 0) (.slice none 0 0)) _ H5.out.bx _ Tryz.underlying42 (by kernel_rfl) (by kernel_rfl) ?_) | (with_reducible refine listStore (by kernel_rfl) 42 (.tmp 2) (.tmp 124) rfl w.heap.size (rcA lsn prev txn 4 0 nx 0 0 0 ⟨#[]⟩ ⟨#[]⟩ 0 0 ⟨#[]⟩ 0 0 (.slice none 0 0) (.slice none 0 0)) _ _ rfl rfl H5.out.br (by kernel_rfl) (by kernel_rfl) (by kernel_rfl) ?_))
  refine bodyPost_ret (v := .agg (rcA lsn prev txn 4 0 nx 0 0 0 ⟨#[]⟩ ⟨#[]⟩ 0 0 ⟨#[]⟩ 0 0 (.slice none 0 0) (.slice none 0 0))) (results_cell rfl _ _ rfl (load_whole H5.out.done.1 Tryz.underlying42 (by kernel_rfl) (by kernel_rfl))) rfl ?_
  rw [RDH.out]
  exact ⟨none, 0, none, 0, rfl, ⟨⟨Reads.none_ _ _ _ _, Reads.none_ _ _ _ _, ⟨Nat.zero_le _, Nat.zero_le _⟩⟩, NewT.none_ _ _ _, NewT.none_ _ _ _⟩, H5.out.done.2⟩
end Go.Proofs.YtojaagnfjenhoaaGreat
/- The walk over package rec: a reader's record, of kind 8. -/
namespace Go.Proofs.YtojaagnfjenhoaaGreat
open Go.RowKit
set_option maxRecDepth 100000 in
set_option maxHeartbeats 2000000 in
theorem record_image (b : Nat) (s : ByteArray) (hm : s.size ≤ 1000000) (s1 : Rc.St) (h0 : Rc.numM true s.data.toList ⟨0, false⟩ 1 = (8, s1)) (w : World) (hb : w.heap[b]? = some (.cells (rdC s 0 false) 102 (0, 0))) :
    Calls Tryz.prog 59 #[.pointer (some ⟨b, 0, none⟩)] w (RecOut (Rc.readM true s.data.toList) b w) := by
  have hl : s.data.toList.length = s.size := by simp
  have a1 : s1.at_ ≤ 1 := Rc.numM_le h0
  have C0 := Lib.hid (fun X f F u (hu : Rd w b s ⟨0, false⟩ X f F u) => hu.num1 h0 hm (by show 0 ≤ _; omega))
  rcases h1 : Rc.numM true s.data.toList s1 6 with ⟨lsn, s2⟩
  have a2 : s2.at_ ≤ s1.at_ + 6 := Rc.numM_le h1
  have C1 := Lib.hid (fun X f F u (hu : Rd w b s s1 X f F u) => hu.num6 h1 hm (by omega))
  rcases h2 : Rc.numM true s.data.toList s2 6 with ⟨prev, s3⟩
  have a3 : s3.at_ ≤ s2.at_ + 6 := Rc.numM_le h2
  have C2 := Lib.hid (fun X f F u (hu : Rd w b s s2 X f F u) => hu.num6 h2 hm (by omega))
  rcases h3 : Rc.numM true s.data.toList s3 6 with ⟨txn, s4⟩
  have a4 : s4.at_ ≤ s3.at_ + 6 := Rc.numM_le h3
  have C3 := Lib.hid (fun X f F u (hu : Rd w b s s3 X f F u) => hu.num6 h3 hm (by omega))
  rcases h4 : Rc.numM true s.data.toList s4 3 with ⟨pa, s5⟩
  have a5 : s5.at_ ≤ s4.at_ + 3 := Rc.numM_le h4
  have C4 := Lib.hid (fun X f F u (hu : Rd w b s s4 X f F u) => hu.num3 h4 hm (by omega))
  rcases h5 : Rc.numM true s.data.toList s5 1 with ⟨ok, s6⟩
  have a6 : s6.at_ ≤ s5.at_ + 1 := Rc.numM_le h5
  have C5 := Lib.hid (fun X f F u (hu : Rd w b s s5 X f F u) => hu.num1 h5 hm (by omega))
  rcases h6 : Rc.numM true s.data.toList s6 2 with ⟨os, s7⟩
  have a7 : s7.at_ ≤ s6.at_ + 2 := Rc.numM_le h6
  have C6 := Lib.hid (fun X f F u (hu : Rd w b s s6 X f F u) => hu.num2 h6 hm (by omega))
  rcases h7 : Rc.textM s.data.toList s7 with ⟨oo, s8⟩
  have a8 : s8.at_ ≤ s7.at_ + s.data.toList.length := Rc.textM_le h7
  have C7 := Lib.hid (fun X f F u (hu : Rd w b s s7 X f F u) => hu.text h7 hm (by omega))
  rcases h8 : Rc.textM s.data.toList s8 with ⟨on, s9⟩
  have a9 : s9.at_ ≤ s8.at_ + s.data.toList.length := Rc.textM_le h8
  have C8 := Lib.hid (fun X f F u (hu : Rd w b s s8 X f F u) => hu.text h8 hm (by omega))
  have e0 : Rc.headM true s.data.toList = (Rc.bare 8 lsn prev txn, s4) := by
    unfold Rc.headM; simp only [h0, h1, h2, h3]
  have RD : Rc.readM true s.data.toList = ⟨lsn, prev, txn, 8, pa, 0, 0, ⟨ok, os, oo, on⟩, 0, 0, Rc.noKey, [], []⟩ := by
    unfold Rc.readM
    rw [e0]
    show Rc.restM true _ (Rc.bare 8 lsn prev txn) s4 = _
    rw [Rc.restM_8 rfl]
    unfold Rc.opM
    simp only [h4, h5, h6, h7, h8]
    rfl
  have HOF := Lib.hid (fun W => of_any 8 W)
  rw [show ofV 8 = .tuple #[formV true false false false true, .bool true] from rfl] at HOF
  have RDH := Lib.hid RD
  clear RD
  have HX := Lib.hid (rd_new (st := ⟨0, false⟩) hb)
  clear hb e0 h0 a1 h1 a2 h2 a3 h3 a4 h4 a5 h5 a6 h6 a7 h7 a8 h8 a9
  go_enter Tryz.func59, Tryz.ntmps59
  go_upto_region 2 with fail
  obtain ⟨W0, hW0⟩ : ∃ W, W = (w.alloc (.cells (rcA 0 0 0 0 0 0 0 0 0 ⟨#[]⟩ ⟨#[]⟩ 0 0 ⟨#[]⟩ 0 0 (.slice none 0 0) (.slice none 0 0)) 42)).alloc (.cells (rcA 0 0 0 0 0 0 0 0 0 ⟨#[]⟩ ⟨#[]⟩ 0 0 ⟨#[]⟩ 0 0 (.slice none 0 0) (.slice none 0 0)) 42) := ⟨_, rfl⟩
  rw [← hW0] at HX ⊢
  clear hW0
  go_upto_region 3 with (first | (go_at_call 92; (with_reducible refine (C0.out _ _ _ _ HX.out).mono ?_); rintro e w1 ⟨rfl, hS1⟩; have hz1 := blkFrozen hS1.bx; have hy1 := blkCell hS1.bx))
  obtain ⟨U1, hU1⟩ : ∃ W, W = (w1.setCell ⟨w.heap.size + 1, 3, none⟩ (.int .i64 8)) := ⟨_, rfl⟩
  have H1 : Hid (Rd w b s s1 (rcA 0 0 0 8 0 0 0 0 0 ⟨#[]⟩ ⟨#[]⟩ 0 0 ⟨#[]⟩ 0 0 (.slice none 0 0) (.slice none 0 0)) w.heap.size #[] (w1.setCell ⟨w.heap.size + 1, 3, none⟩ (.int .i64 8))) := Lib.hid (by have h := (hS1.set 3 (.int .i64 8)); first | exact h | simpa using h)
  rw [← hU1] at H1 ⊢
  clear hU1 hS1 hz1 hy1 HX
  have hcx := blkCell H1.out.bx
  go_upto_region 4 with (go_at_call 63; (with_reducible refine (HOF.out _).mono ?_); rintro e w9 ⟨rfl, hb9⟩)
  have HF := Lib.hid ((H1.out.step hb9).formed #[.bool true, .bool false, .bool false, .bool false, .bool true])
  have hf : w.heap.size + 1 < w9.heap.size := by have h1 := H1.out.size; have h2 := hb9.size; omega
  obtain ⟨f, hfe⟩ : ∃ f, f = w9.heap.size := ⟨_, rfl⟩
  rw [← hfe] at HF hf ⊢
  obtain ⟨WF, hWF⟩ : ∃ W, W = w9.alloc (.cells #[.bool true, .bool false, .bool false, .bool false, .bool true] 110) := ⟨_, rfl⟩
  rw [← hWF] at HF ⊢
  clear hWF hfe hb9 hcx H1
  have hF := blkCell (HF.out.form (by omega))
  go_upto_region 5 with (first | (go_at_call 92; (with_reducible refine (C1.out _ _ _ _ HF.out).mono ?_); rintro e w2 ⟨rfl, hS2⟩; have hz2 := blkFrozen hS2.bx; have hy2 := blkCell hS2.bx) | (go_at_call 92; (with_reducible refine (C2.out _ _ _ _ hS2).mono ?_); rintro e w3 ⟨rfl, hS3⟩; have hz3 := blkFrozen hS3.bx; have hy3 := blkCell hS3.bx) | (go_at_call 92; (with_reducible refine (C3.out _ _ _ _ hS3).mono ?_); rintro e w4 ⟨rfl, hS4⟩; have hz4 := blkFrozen hS4.bx; have hy4 := blkCell hS4.bx))
  obtain ⟨U4, hU4⟩ : ∃ W, W = (((w4.setCell ⟨w.heap.size + 1, 0, none⟩ (.int .i64 lsn)).setCell ⟨w.heap.size + 1, 1, none⟩ (.int .i64 prev)).setCell ⟨w.heap.size + 1, 2, none⟩ (.int .i64 txn)) := ⟨_, rfl⟩
  have H4 : Hid (Rd w b s s4 (rcA lsn prev txn 8 0 0 0 0 0 ⟨#[]⟩ ⟨#[]⟩ 0 0 ⟨#[]⟩ 0 0 (.slice none 0 0) (.slice none 0 0)) f #[.bool true, .bool false, .bool false, .bool false, .bool true] (((w4.setCell ⟨w.heap.size + 1, 0, none⟩ (.int .i64 lsn)).setCell ⟨w.heap.size + 1, 1, none⟩ (.int .i64 prev)).setCell ⟨w.heap.size + 1, 2, none⟩ (.int .i64 txn))) := Lib.hid (by have h := (((hS4.set 0 (.int .i64 lsn)).set 1 (.int .i64 prev)).set 2 (.int .i64 txn)); first | exact h | simpa using h)
  rw [← hU4] at H4 ⊢
  clear hU4 hS4 hz4 hy4 hS3 hz3 hy3 hS2 hz2 hy2 HF hF
  have hF := blkCell (H4.out.form (by omega))
  go_upto_region 7 with (first | (go_at_call 92; (with_reducible refine (C4.out _ _ _ _ H4.out).mono ?_); rintro e w5 ⟨rfl, hS5⟩; have hz5 := blkFrozen hS5.bx; have hy5 := blkCell hS5.bx))
  obtain ⟨U5, hU5⟩ : ∃ W, W = (w5.setCell ⟨w.heap.size + 1, 4, none⟩ (.int .i64 pa)) := ⟨_, rfl⟩
  have H5 : Hid (Rd w b s s5 (rcA lsn prev txn 8 pa 0 0 0 0 ⟨#[]⟩ ⟨#[]⟩ 0 0 ⟨#[]⟩ 0 0 (.slice none 0 0) (.slice none 0 0)) f #[.bool true, .bool false, .bool false, .bool false, .bool true] (w5.setCell ⟨w.heap.size + 1, 4, none⟩ (.int .i64 pa))) := Lib.hid (by have h := (hS5.set 4 (.int .i64 pa)); first | exact h | simpa using h)
  rw [← hU5] at H5 ⊢
  clear hU5 hS5 hz5 hy5 H4 hF
  go_upto_region 8 with (first | (go_at_call 92; (with_reducible refine (C5.out _ _ _ _ H5.out).mono ?_); rintro e w6 ⟨rfl, hS6⟩; have hz6 := blkFrozen hS6.bx; have hy6 := blkCell hS6.bx) | (go_at_call 92; (with_reducible refine (C6.out _ _ _ _ hS6).mono ?_); rintro e w7 ⟨rfl, hS7⟩; have hz7 := blkFrozen hS7.bx; have hy7 := blkCell hS7.bx) | (go_at_call 93; (with_reducible refine (C7.out _ _ _ _ hS7).mono ?_); rintro e w8 ⟨rfl, hS8⟩; have hz8 := blkFrozen hS8.bx; have hy8 := blkCell hS8.bx) | (go_at_call 93; (with_reducible refine (C8.out _ _ _ _ hS8).mono ?_); rintro e w9 ⟨rfl, hS9⟩; have hz9 := blkFrozen hS9.bx; have hy9 := blkCell hS9.bx))
  obtain ⟨U9, hU9⟩ : ∃ W, W = ((((w9.setCell ⟨w.heap.size + 1, 7, none⟩ (.int .i64 ok)).setCell ⟨w.heap.size + 1, 8, none⟩ (.int .i64 os)).setCell ⟨w.heap.size + 1, 9, none⟩ (.string oo)).setCell ⟨w.heap.size + 1, 10, none⟩ (.string on)) := ⟨_, rfl⟩
  have H9 : Hid (Rd w b s s9 (rcA lsn prev txn 8 pa 0 0 ok os oo on 0 0 ⟨#[]⟩ 0 0 (.slice none 0 0) (.slice none 0 0)) f #[.bool true, .bool false, .bool false, .bool false, .bool true] ((((w9.setCell ⟨w.heap.size + 1, 7, none⟩ (.int .i64 ok)).setCell ⟨w.heap.size + 1, 8, none⟩ (.int .i64 os)).setCell ⟨w.heap.size + 1, 9, none⟩ (.string oo)).setCell ⟨w.heap.size + 1, 10, none⟩ (.string on))) := Lib.hid (by have h := ((((hS9.set 7 (.int .i64 ok)).set 8 (.int .i64 os)).set 9 (.string oo)).set 10 (.string on)); first | exact h | simpa using h)
  rw [← hU9] at H9 ⊢
  clear hU9 hS9 hz9 hy9 hS8 hz8 hy8 hS7 hz7 hy7 hS6 hz6 hy6 H5
  have hF := blkCell (H9.out.form (by omega))
  go_upto_region 26 with fail
  clear hF
  go_wp2_with (first | (with_reducible refine listLoad (by kernel_rfl) 42 (.tmp 3) rfl (w.heap.size + 1) rfl (rcA lsn prev txn 8 pa 0 0 ok os oo on 0 0 ⟨#[]⟩ 0 0 (.slice none 0 0) (.slice none 0 0)) _ H9.out.bx _ Tryz.underlying42 (by kernel_rfl) (by kernel_rfl) ?_) | (with_reducible refine listStore (by kernel_rfl) 42 (.tmp 2) (.tmp 124) rfl w.heap.size (rcA lsn prev txn 8 pa 0 0 ok os oo on 0 0 ⟨#[]⟩ 0 0 (.slice none 0 0) (.slice none 0 0)) _ _ rfl rfl H9.out.br (by kernel_rfl) (by kernel_rfl) (by kernel_rfl) ?_))
  refine bodyPost_ret (v := .agg (rcA lsn prev txn 8 pa 0 0 ok os oo on 0 0 ⟨#[]⟩ 0 0 (.slice none 0 0) (.slice none 0 0))) (results_cell rfl _ _ rfl (load_whole H9.out.done.1 Tryz.underlying42 (by kernel_rfl) (by kernel_rfl))) rfl ?_
  rw [RDH.out]
  exact ⟨none, 0, none, 0, rfl, ⟨⟨Reads.none_ _ _ _ _, Reads.none_ _ _ _ _, ⟨Nat.zero_le _, Nat.zero_le _⟩⟩, NewT.none_ _ _ _, NewT.none_ _ _ _⟩, H9.out.done.2⟩
end Go.Proofs.YtojaagnfjenhoaaGreat
/- The walk over package rec: a reader's record, of kind 3. -/
namespace Go.Proofs.YtojaagnfjenhoaaGreat
open Go.RowKit
set_option maxRecDepth 100000 in
set_option maxHeartbeats 2000000 in
theorem record_clr (b : Nat) (s : ByteArray) (hm : s.size ≤ 1000000) (s1 : Rc.St) (h0 : Rc.numM true s.data.toList ⟨0, false⟩ 1 = (3, s1)) (w : World) (hb : w.heap[b]? = some (.cells (rdC s 0 false) 102 (0, 0))) :
    Calls Tryz.prog 59 #[.pointer (some ⟨b, 0, none⟩)] w (RecOut (Rc.readM true s.data.toList) b w) := by
  have hl : s.data.toList.length = s.size := by simp
  have a1 : s1.at_ ≤ 1 := Rc.numM_le h0
  have C0 := Lib.hid (fun X f F u (hu : Rd w b s ⟨0, false⟩ X f F u) => hu.num1 h0 hm (by show 0 ≤ _; omega))
  rcases h1 : Rc.numM true s.data.toList s1 6 with ⟨lsn, s2⟩
  have a2 : s2.at_ ≤ s1.at_ + 6 := Rc.numM_le h1
  have C1 := Lib.hid (fun X f F u (hu : Rd w b s s1 X f F u) => hu.num6 h1 hm (by omega))
  rcases h2 : Rc.numM true s.data.toList s2 6 with ⟨prev, s3⟩
  have a3 : s3.at_ ≤ s2.at_ + 6 := Rc.numM_le h2
  have C2 := Lib.hid (fun X f F u (hu : Rd w b s s2 X f F u) => hu.num6 h2 hm (by omega))
  rcases h3 : Rc.numM true s.data.toList s3 6 with ⟨txn, s4⟩
  have a4 : s4.at_ ≤ s3.at_ + 6 := Rc.numM_le h3
  have C3 := Lib.hid (fun X f F u (hu : Rd w b s s3 X f F u) => hu.num6 h3 hm (by omega))
  rcases h4 : Rc.numM true s.data.toList s4 3 with ⟨pa, s5⟩
  have a5 : s5.at_ ≤ s4.at_ + 3 := Rc.numM_le h4
  have C4 := Lib.hid (fun X f F u (hu : Rd w b s s4 X f F u) => hu.num3 h4 hm (by omega))
  rcases h5 : Rc.numM true s.data.toList s5 1 with ⟨ok, s6⟩
  have a6 : s6.at_ ≤ s5.at_ + 1 := Rc.numM_le h5
  have C5 := Lib.hid (fun X f F u (hu : Rd w b s s5 X f F u) => hu.num1 h5 hm (by omega))
  rcases h6 : Rc.numM true s.data.toList s6 2 with ⟨os, s7⟩
  have a7 : s7.at_ ≤ s6.at_ + 2 := Rc.numM_le h6
  have C6 := Lib.hid (fun X f F u (hu : Rd w b s s6 X f F u) => hu.num2 h6 hm (by omega))
  rcases h7 : Rc.textM s.data.toList s7 with ⟨oo, s8⟩
  have a8 : s8.at_ ≤ s7.at_ + s.data.toList.length := Rc.textM_le h7
  have C7 := Lib.hid (fun X f F u (hu : Rd w b s s7 X f F u) => hu.text h7 hm (by omega))
  rcases h8 : Rc.textM s.data.toList s8 with ⟨on, s9⟩
  have a9 : s9.at_ ≤ s8.at_ + s.data.toList.length := Rc.textM_le h8
  have C8 := Lib.hid (fun X f F u (hu : Rd w b s s8 X f F u) => hu.text h8 hm (by omega))
  rcases h9 : Rc.numM true s.data.toList s9 6 with ⟨nx, s10⟩
  have a10 : s10.at_ ≤ s9.at_ + 6 := Rc.numM_le h9
  have C9 := Lib.hid (fun X f F u (hu : Rd w b s s9 X f F u) => hu.num6 h9 hm (by omega))
  have e0 : Rc.headM true s.data.toList = (Rc.bare 3 lsn prev txn, s4) := by
    unfold Rc.headM; simp only [h0, h1, h2, h3]
  have RD : Rc.readM true s.data.toList = ⟨lsn, prev, txn, 3, pa, nx, 0, ⟨ok, os, oo, on⟩, 0, 0, Rc.noKey, [], []⟩ := by
    unfold Rc.readM
    rw [e0]
    show Rc.restM true _ (Rc.bare 3 lsn prev txn) s4 = _
    rw [Rc.restM_3 rfl]
    unfold Rc.opM
    simp only [h4, h5, h6, h7, h8, h9]
    rfl
  have HOF := Lib.hid (fun W => of_any 3 W)
  rw [show ofV 3 = .tuple #[formV true false true false true, .bool true] from rfl] at HOF
  have RDH := Lib.hid RD
  clear RD
  have HX := Lib.hid (rd_new (st := ⟨0, false⟩) hb)
  clear hb e0 h0 a1 h1 a2 h2 a3 h3 a4 h4 a5 h5 a6 h6 a7 h7 a8 h8 a9 h9 a10
  go_enter Tryz.func59, Tryz.ntmps59
  go_upto_region 2 with fail
  obtain ⟨W0, hW0⟩ : ∃ W, W = (w.alloc (.cells (rcA 0 0 0 0 0 0 0 0 0 ⟨#[]⟩ ⟨#[]⟩ 0 0 ⟨#[]⟩ 0 0 (.slice none 0 0) (.slice none 0 0)) 42)).alloc (.cells (rcA 0 0 0 0 0 0 0 0 0 ⟨#[]⟩ ⟨#[]⟩ 0 0 ⟨#[]⟩ 0 0 (.slice none 0 0) (.slice none 0 0)) 42) := ⟨_, rfl⟩
  rw [← hW0] at HX ⊢
  clear hW0
  go_upto_region 3 with (first | (go_at_call 92; (with_reducible refine (C0.out _ _ _ _ HX.out).mono ?_); rintro e w1 ⟨rfl, hS1⟩; have hz1 := blkFrozen hS1.bx; have hy1 := blkCell hS1.bx))
  obtain ⟨U1, hU1⟩ : ∃ W, W = (w1.setCell ⟨w.heap.size + 1, 3, none⟩ (.int .i64 3)) := ⟨_, rfl⟩
  have H1 : Hid (Rd w b s s1 (rcA 0 0 0 3 0 0 0 0 0 ⟨#[]⟩ ⟨#[]⟩ 0 0 ⟨#[]⟩ 0 0 (.slice none 0 0) (.slice none 0 0)) w.heap.size #[] (w1.setCell ⟨w.heap.size + 1, 3, none⟩ (.int .i64 3))) := Lib.hid (by have h := (hS1.set 3 (.int .i64 3)); first | exact h | simpa using h)
  rw [← hU1] at H1 ⊢
  clear hU1 hS1 hz1 hy1 HX
  have hcx := blkCell H1.out.bx
  go_upto_region 4 with (go_at_call 63; (with_reducible refine (HOF.out _).mono ?_); rintro e w9 ⟨rfl, hb9⟩)
  have HF := Lib.hid ((H1.out.step hb9).formed #[.bool true, .bool false, .bool true, .bool false, .bool true])
  have hf : w.heap.size + 1 < w9.heap.size := by have h1 := H1.out.size; have h2 := hb9.size; omega
  obtain ⟨f, hfe⟩ : ∃ f, f = w9.heap.size := ⟨_, rfl⟩
  rw [← hfe] at HF hf ⊢
  obtain ⟨WF, hWF⟩ : ∃ W, W = w9.alloc (.cells #[.bool true, .bool false, .bool true, .bool false, .bool true] 110) := ⟨_, rfl⟩
  rw [← hWF] at HF ⊢
  clear hWF hfe hb9 hcx H1
  have hF := blkCell (HF.out.form (by omega))
  go_upto_region 5 with (first | (go_at_call 92; (with_reducible refine (C1.out _ _ _ _ HF.out).mono ?_); rintro e w2 ⟨rfl, hS2⟩; have hz2 := blkFrozen hS2.bx; have hy2 := blkCell hS2.bx) | (go_at_call 92; (with_reducible refine (C2.out _ _ _ _ hS2).mono ?_); rintro e w3 ⟨rfl, hS3⟩; have hz3 := blkFrozen hS3.bx; have hy3 := blkCell hS3.bx) | (go_at_call 92; (with_reducible refine (C3.out _ _ _ _ hS3).mono ?_); rintro e w4 ⟨rfl, hS4⟩; have hz4 := blkFrozen hS4.bx; have hy4 := blkCell hS4.bx))
  obtain ⟨U4, hU4⟩ : ∃ W, W = (((w4.setCell ⟨w.heap.size + 1, 0, none⟩ (.int .i64 lsn)).setCell ⟨w.heap.size + 1, 1, none⟩ (.int .i64 prev)).setCell ⟨w.heap.size + 1, 2, none⟩ (.int .i64 txn)) := ⟨_, rfl⟩
  have H4 : Hid (Rd w b s s4 (rcA lsn prev txn 3 0 0 0 0 0 ⟨#[]⟩ ⟨#[]⟩ 0 0 ⟨#[]⟩ 0 0 (.slice none 0 0) (.slice none 0 0)) f #[.bool true, .bool false, .bool true, .bool false, .bool true] (((w4.setCell ⟨w.heap.size + 1, 0, none⟩ (.int .i64 lsn)).setCell ⟨w.heap.size + 1, 1, none⟩ (.int .i64 prev)).setCell ⟨w.heap.size + 1, 2, none⟩ (.int .i64 txn))) := Lib.hid (by have h := (((hS4.set 0 (.int .i64 lsn)).set 1 (.int .i64 prev)).set 2 (.int .i64 txn)); first | exact h | simpa using h)
  rw [← hU4] at H4 ⊢
  clear hU4 hS4 hz4 hy4 hS3 hz3 hy3 hS2 hz2 hy2 HF hF
  have hF := blkCell (H4.out.form (by omega))
  go_upto_region 7 with (first | (go_at_call 92; (with_reducible refine (C4.out _ _ _ _ H4.out).mono ?_); rintro e w5 ⟨rfl, hS5⟩; have hz5 := blkFrozen hS5.bx; have hy5 := blkCell hS5.bx))
  obtain ⟨U5, hU5⟩ : ∃ W, W = (w5.setCell ⟨w.heap.size + 1, 4, none⟩ (.int .i64 pa)) := ⟨_, rfl⟩
  have H5 : Hid (Rd w b s s5 (rcA lsn prev txn 3 pa 0 0 0 0 ⟨#[]⟩ ⟨#[]⟩ 0 0 ⟨#[]⟩ 0 0 (.slice none 0 0) (.slice none 0 0)) f #[.bool true, .bool false, .bool true, .bool false, .bool true] (w5.setCell ⟨w.heap.size + 1, 4, none⟩ (.int .i64 pa))) := Lib.hid (by have h := (hS5.set 4 (.int .i64 pa)); first | exact h | simpa using h)
  rw [← hU5] at H5 ⊢
  clear hU5 hS5 hz5 hy5 H4 hF
  go_upto_region 8 with (first | (go_at_call 92; (with_reducible refine (C5.out _ _ _ _ H5.out).mono ?_); rintro e w6 ⟨rfl, hS6⟩; have hz6 := blkFrozen hS6.bx; have hy6 := blkCell hS6.bx) | (go_at_call 92; (with_reducible refine (C6.out _ _ _ _ hS6).mono ?_); rintro e w7 ⟨rfl, hS7⟩; have hz7 := blkFrozen hS7.bx; have hy7 := blkCell hS7.bx) | (go_at_call 93; (with_reducible refine (C7.out _ _ _ _ hS7).mono ?_); rintro e w8 ⟨rfl, hS8⟩; have hz8 := blkFrozen hS8.bx; have hy8 := blkCell hS8.bx) | (go_at_call 93; (with_reducible refine (C8.out _ _ _ _ hS8).mono ?_); rintro e w9 ⟨rfl, hS9⟩; have hz9 := blkFrozen hS9.bx; have hy9 := blkCell hS9.bx))
  obtain ⟨U9, hU9⟩ : ∃ W, W = ((((w9.setCell ⟨w.heap.size + 1, 7, none⟩ (.int .i64 ok)).setCell ⟨w.heap.size + 1, 8, none⟩ (.int .i64 os)).setCell ⟨w.heap.size + 1, 9, none⟩ (.string oo)).setCell ⟨w.heap.size + 1, 10, none⟩ (.string on)) := ⟨_, rfl⟩
  have H9 : Hid (Rd w b s s9 (rcA lsn prev txn 3 pa 0 0 ok os oo on 0 0 ⟨#[]⟩ 0 0 (.slice none 0 0) (.slice none 0 0)) f #[.bool true, .bool false, .bool true, .bool false, .bool true] ((((w9.setCell ⟨w.heap.size + 1, 7, none⟩ (.int .i64 ok)).setCell ⟨w.heap.size + 1, 8, none⟩ (.int .i64 os)).setCell ⟨w.heap.size + 1, 9, none⟩ (.string oo)).setCell ⟨w.heap.size + 1, 10, none⟩ (.string on))) := Lib.hid (by have h := ((((hS9.set 7 (.int .i64 ok)).set 8 (.int .i64 os)).set 9 (.string oo)).set 10 (.string on)); first | exact h | simpa using h)
  rw [← hU9] at H9 ⊢
  clear hU9 hS9 hz9 hy9 hS8 hz8 hy8 hS7 hz7 hy7 hS6 hz6 hy6 H5
  have hF := blkCell (H9.out.form (by omega))
  go_upto_region 16 with (first | (go_at_call 92; (with_reducible refine (C9.out _ _ _ _ H9.out).mono ?_); rintro e w10 ⟨rfl, hS10⟩; have hz10 := blkFrozen hS10.bx; have hy10 := blkCell hS10.bx))
  obtain ⟨U10, hU10⟩ : ∃ W, W = (w10.setCell ⟨w.heap.size + 1, 5, none⟩ (.int .i64 nx)) := ⟨_, rfl⟩
  have H10 : Hid (Rd w b s s10 (rcA lsn prev txn 3 pa nx 0 ok os oo on 0 0 ⟨#[]⟩ 0 0 (.slice none 0 0) (.slice none 0 0)) f #[.bool true, .bool false, .bool true, .bool false, .bool true] (w10.setCell ⟨w.heap.size + 1, 5, none⟩ (.int .i64 nx))) := Lib.hid (by have h := (hS10.set 5 (.int .i64 nx)); first | exact h | simpa using h)
  rw [← hU10] at H10 ⊢
  clear hU10 hS10 hz10 hy10 H9 hF
  have hF := blkCell (H10.out.form (by omega))
  go_upto_region 26 with fail
  clear hF
  go_wp2_with (first | (with_reducible refine listLoad (by kernel_rfl) 42 (.tmp 3) rfl (w.heap.size + 1) rfl (rcA lsn prev txn 3 pa nx 0 ok os oo on 0 0 ⟨#[]⟩ 0 0 (.slice none 0 0) (.slice none 0 0)) _ H10.out.bx _ Tryz.underlying42 (by kernel_rfl) (by kernel_rfl) ?_) | (with_reducible refine listStore (by kernel_rfl) 42 (.tmp 2) (.tmp 124) rfl w.heap.size (rcA lsn prev txn 3 pa nx 0 ok os oo on 0 0 ⟨#[]⟩ 0 0 (.slice none 0 0) (.slice none 0 0)) _ _ rfl rfl H10.out.br (by kernel_rfl) (by kernel_rfl) (by kernel_rfl) ?_))
  refine bodyPost_ret (v := .agg (rcA lsn prev txn 3 pa nx 0 ok os oo on 0 0 ⟨#[]⟩ 0 0 (.slice none 0 0) (.slice none 0 0))) (results_cell rfl _ _ rfl (load_whole H10.out.done.1 Tryz.underlying42 (by kernel_rfl) (by kernel_rfl))) rfl ?_
  rw [RDH.out]
  exact ⟨none, 0, none, 0, rfl, ⟨⟨Reads.none_ _ _ _ _, Reads.none_ _ _ _ _, ⟨Nat.zero_le _, Nat.zero_le _⟩⟩, NewT.none_ _ _ _, NewT.none_ _ _ _⟩, H10.out.done.2⟩
end Go.Proofs.YtojaagnfjenhoaaGreat
