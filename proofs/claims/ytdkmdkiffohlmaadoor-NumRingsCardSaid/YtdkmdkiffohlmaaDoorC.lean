/- The walks over the decimal texts: package num's Text and Parse, by the shelf's contracts for strconv. -/
import Derived.Test.YtdkmdkiffohlmaaDoorB
import Derived.Test.YtdkmdkiffohlmaaDoorPlainT
import Derived.Test.YtdkmdkiffohlmaaDoorShelf
import Derived.WalkSmall
import Derived.Deep.QuietTactic
import Derived.BigQuiet
namespace Go.Proofs.YtdkmdkiffohlmaaDoor
open Go.RowKit NumPlain

structure Vars (w : World) : Prop where
  tab : Lib.TabIs Tryd.prog w "internal/strconv.uint64pow10" .u64 Lib.pow10Tab
  syn : ∃ tp p, w.var? Tryd.prog "strconv.ErrSyntax" = some #[.iface tp p]
  ran : ∃ tp p, w.var? Tryd.prog "strconv.ErrRange" = some #[.iface tp p]
  size : 5 ≤ w.heap.size

theorem gTab : Tryd.prog.globalNamed "internal/strconv.uint64pow10" = some 2 := by kernel_rfl
theorem gSyn : Tryd.prog.globalNamed "strconv.ErrSyntax" = some 0 := by kernel_rfl
theorem gRan : Tryd.prog.globalNamed "strconv.ErrRange" = some 1 := by kernel_rfl

theorem Vars.below {w w' : World} (h : Vars w) (hb : Below w.heap.size w w') : Vars w' := by
  have h5 := h.size
  obtain ⟨ta, pa, ha⟩ := h.syn
  obtain ⟨tb, pb, hb'⟩ := h.ran
  exact ⟨var?_below hb gTab (by omega) h.tab, ⟨ta, pa, var?_below hb gSyn (by omega) ha⟩, ⟨tb, pb, var?_below hb gRan (by omega) hb'⟩, Nat.le_trans h.size hb.size⟩

/-- One after the other. -/
theorem andThen {a b c : World} (h : Below a.heap.size a b) (k : Below b.heap.size b c) : Below a.heap.size a c := h.trans (k.mono h.size)

theorem below_grown (w : World) (k : Nat) (os : Array Obj) : Below w.heap.size w (Sort.grow (w.drewN k) os) :=
  ⟨rfl, rfl, rfl, by show w.heap.size ≤ (w.heap ++ os).size; rw [Array.size_append]; omega, fun j hj => by
    show (w.heap ++ os)[j]? = w.heap[j]?
    rw [Array.getElem?_append_left hj]⟩
theorem below_bytes (w : World) (e : TypeId) (s : ByteArray) : Below w.heap.size w (Lib.bytesWorld w e s) :=
  ⟨rfl, rfl, rfl, by rw [Lib.bytesWorld_size]; omega, fun j hj => Lib.bytesWorld_at_old w e s j hj⟩

theorem text_any (n : Int) (h0 : -9223372036854775808 ≤ n) (h1 : n ≤ 9223372036854775807) (w : World) (hv : Vars w) :
    Calls Tryd.prog 8 #[.int .i64 n] w fun e w' => e = .returned (.string ⟨(Lib.itoa n).toArray⟩) ∧ Below w.heap.size w w' := by
  have HT := Lib.hid hv.tab
  go_enter Tryd.func8, Tryd.ntmps8
  go_wp2_with (go_at_call 28; refine (Tryd.strconv_Itoa _ h0 h1 _ HT.out).mono ?_; rintro e w' ⟨rfl, k, os, rfl⟩)
  go_ret
  exact ⟨rfl, below_grown _ _ _⟩

theorem atoi_bad (s : ByteArray) (hlim : s.size ≤ 281474976710656) (h : ∀ v, Lib.atoiAll s.data.toList ≠ .ok v) (w : World) (hv : Vars w) :
    Calls Tryd.prog 29 #[.string s] w fun e w' => ∃ n p, e = .returned (.tuple #[.int .i64 n, .iface 45 p]) ∧ Below w.heap.size w w' := by
  cases hc : Lib.atoiAll s.data.toList
  · rename_i v; exact absurd hc (h v)
  · obtain ⟨tp, p, hvar⟩ := hv.syn
    refine (Any.strconv_Atoi_syntax_var Tryd.laysC172 s hlim hc tp p w hvar).mono ?_
    rintro e w' ⟨N, rfl, _, _, hb⟩
    exact ⟨_, _, rfl, hb⟩
  · obtain ⟨tp, p, hvar⟩ := hv.ran
    refine (Any.strconv_Atoi_range_var Tryd.laysC172 s hlim hc tp p w hvar).mono ?_
    rintro e w' ⟨N, rfl, _, _, hb⟩
    exact ⟨_, _, rfl, hb⟩
theorem atoi_good (s : ByteArray) (hlim : s.size ≤ 281474976710656) (v : Int) (h : Lib.atoiAll s.data.toList = .ok v) (w : World) :
    Calls Tryd.prog 29 #[.string s] w fun e w' => e = .returned (.tuple #[.int .i64 v, .nilIface]) ∧ Below w.heap.size w w' := by
  refine (Tryd.strconv_Atoi_ok s (by omega) v h w).mono ?_
  rintro e w' ⟨rfl, hw⟩
  refine ⟨rfl, ?_⟩
  rcases hw with rfl | ⟨t, rfl⟩
  · exact Below.refl _ _
  · exact below_bytes _ _ _

/-- A string of bytes, by its list. -/
theorem bytes_eq {s : ByteArray} {l : List UInt8} (h : l = s.data.toList) : (⟨l.toArray⟩ : ByteArray) = s := by
  subst h; cases s; simp
theorem bytes_ne {s : ByteArray} {l : List UInt8} (h : l ≠ s.data.toList) : (⟨l.toArray⟩ : ByteArray) ≠ s := by
  rintro rfl; simp at h

theorem parse_any (s : ByteArray) (hlim : s.size ≤ 281474976710656) (w : World) (hv : Vars w) :
    Calls Tryd.prog 9 #[.string s] w fun e w' => e = two (parseN s.data.toList) ∧ Below w.heap.size w w' := by
  by_cases hok : ∃ v, Lib.atoiAll s.data.toList = .ok v
  · obtain ⟨v, hok⟩ := hok
    have HC := Lib.hid (fun W => atoi_good s hlim v hok W)
    have HV := Lib.hid hv
    clear hv
    cases hin : inN v
    · have HR := Lib.hid (show parseN s.data.toList = (0, false) by simp [parseN, hok, hin])
      clear hok
      go_enter Tryd.func9, Tryd.ntmps9
      go_wp2_with (first | (go_at_call 29; refine (HC.out _).mono ?_; rintro e w' ⟨rfl, hb⟩) | (go_at_call 12; refine (in_any _ _).mono ?_; rintro e w' ⟨rfl, rfl⟩))
      go_ret2
      exact ⟨by rw [HR.out]; rfl, hb⟩
    · obtain ⟨h1, h2⟩ := inN_true hin
      by_cases heq : Lib.itoa v = s.data.toList
      · have HR := Lib.hid (show parseN s.data.toList = (v, true) by simp [parseN, hok, hin, heq])
        have HT := Lib.hid (show ∀ W, Vars W → Calls Tryd.prog 8 #[.int .i64 v] W fun e w' => e = .returned (.string s) ∧ Below W.heap.size W w' from fun W hW => by
          have := text_any v (by omega) (by omega) W hW
          rwa [bytes_eq heq] at this)
        clear hok heq
        go_enter Tryd.func9, Tryd.ntmps9
        go_wp2_with (first | (go_at_call 29; refine (HC.out _).mono ?_; rintro e w' ⟨rfl, hb⟩; have HV2 := Lib.hid (HV.out.below hb)) | (go_at_call 12; refine (in_any _ _).mono ?_; rintro e w' ⟨rfl, rfl⟩) | (go_at_call 8; refine (HT.out _ HV2.out).mono ?_; rintro e w' ⟨rfl, hb2⟩))
        go_ret2
        exact ⟨by rw [HR.out]; rfl, andThen hb hb2⟩
      · have HR := Lib.hid (show parseN s.data.toList = (0, false) by simp [parseN, hok, hin, heq])
        obtain ⟨t, ht, hne⟩ : ∃ t : ByteArray, (⟨(Lib.itoa v).toArray⟩ : ByteArray) = t ∧ t ≠ s := ⟨_, rfl, bytes_ne heq⟩
        have HT := Lib.hid (show ∀ W, Vars W → Calls Tryd.prog 8 #[.int .i64 v] W fun e w' => e = .returned (.string t) ∧ Below W.heap.size W w' from fun W hW => by
          have := text_any v (by omega) (by omega) W hW
          rwa [ht] at this)
        have hq : (t.toList == s.toList) = false := by
          rw [ByteArray.toList_eq, ByteArray.toList_eq, ← ht]
          simpa using heq
        clear hok heq ht hne
        go_enter Tryd.func9, Tryd.ntmps9
        go_wp2_with (first | (go_at_call 29; refine (HC.out _).mono ?_; rintro e w' ⟨rfl, hb⟩; have HV2 := Lib.hid (HV.out.below hb)) | (go_at_call 12; refine (in_any _ _).mono ?_; rintro e w' ⟨rfl, rfl⟩) | (go_at_call 8; refine (HT.out _ HV2.out).mono ?_; rintro e w' ⟨rfl, hb2⟩))
        go_ret2
        exact ⟨by rw [HR.out]; rfl, andThen hb hb2⟩
  · have hbad : ∀ v, Lib.atoiAll s.data.toList ≠ .ok v := fun v hv => hok ⟨v, hv⟩
    have hr : parseN s.data.toList = (0, false) := by
      unfold parseN
      split
      · rename_i v hv; exact absurd hv (hbad v)
      · rfl
    have HR := Lib.hid hr
    have HC := Lib.hid (fun W hW => atoi_bad s hlim hbad W hW)
    clear hr hbad hok
    have HV := Lib.hid hv
    clear hv
    go_enter Tryd.func9, Tryd.ntmps9
    go_wp2_with (go_at_call 29; refine (HC.out _ HV.out).mono ?_; rintro e w' ⟨n, p, rfl, hb⟩)
    go_ret2
    exact ⟨by rw [HR.out]; rfl, hb⟩

theorem bytes_list (l : List UInt8) : (⟨l.toArray⟩ : ByteArray).data.toList = l := by simp
theorem bytes_cat (l r : List UInt8) : (⟨l.toArray⟩ : ByteArray) ++ ⟨r.toArray⟩ = ⟨(l ++ r).toArray⟩ := by
  apply ByteArray.ext
  simp

theorem rtext_small (n : Int) (w : World) (hs : n.natAbs < 10) :
    Calls Tryd.prog 11 #[.int .i64 n] w fun e w' => e = .returned (.string ⟨(Lib.itoa n).toArray⟩) ∧ ∃ m, w' = w.drewN m := by
  by_cases hn : n < 0
  · obtain ⟨d, rfl⟩ : ∃ d : Nat, n = -(d : Int) := ⟨n.natAbs, by omega⟩
    go_enter Tryd.func11, Tryd.ntmps11
    go_wp2_with fail
    go_ret
    exact ⟨congrArg (fun s => Ending.returned (Value.string s)) (by
      rw [itoa_minus (by omega) (by omega)]
      rw [Nat.add_comm 1 d]
      show (⟨#[45]⟩ : ByteArray) ++ digits.extract d (d + 1) = _
      rw [digits_piece d (by omega)]; rfl), 0, rfl⟩
  · obtain ⟨d, rfl⟩ : ∃ d : Nat, n = (d : Int) := ⟨n.natAbs, by omega⟩
    go_enter Tryd.func11, Tryd.ntmps11
    go_wp2_with fail
    go_ret
    exact ⟨congrArg (fun s => Ending.returned (Value.string s)) (by
      rw [itoa_one (by omega)]
      exact digits_piece d (by omega)), 0, rfl⟩

/-- The last region of the reference's Text, at a number that is not below 0. -/
theorem rtext_pos (n q : Int) (r : Nat) (w : World) (h1 : 10 ≤ n) (h2 : n ≤ 9223372036854775807) (hr10 : r < 10) (hm : n % 10 = (r : Int)) (hq : n / 10 = q)
    (hc : ∀ W, Calls Tryd.prog 11 #[.int .i64 q] W fun e w' => e = .returned (.string ⟨(Lib.itoa q).toArray⟩) ∧ ∃ m, w' = W.drewN m)
    (hf : (⟨(Lib.itoa q).toArray⟩ : ByteArray) ++ digits.extract r (r + 1) = ⟨(Lib.itoa n).toArray⟩) :
    Calls Tryd.prog 11 #[.int .i64 n] w fun e w' => e = .returned (.string ⟨(Lib.itoa n).toArray⟩) ∧ ∃ m, w' = w.drewN m := by
  have hw : IntKind.i64.wrap (n.tdiv 10) = q := by
    rw [Int.tdiv_eq_ediv_of_nonneg (by omega), hq]
    exact IntWalk.i64_in _ (by omega)
  have hw2 : IntKind.i64.wrap ((r : Int) + 1) = (r : Int) + 1 := IntWalk.i64_in _ (by omega)
  have hw3 : 0 ≤ (r : Int) + 1 := by omega
  have hw4 : ((r : Int) + 1).toNat = r + 1 := by omega
  have hw5 : (r : Int) ≤ (r : Int) + 1 := by omega
  have hw6 : (r : Int) + 1 ≤ 10 := by omega
  have hql : (Lib.itoa q).length ≤ 21 := Lib.itoa_length_le q (by omega) (by omega)
  obtain ⟨t, ht⟩ : ∃ t : ByteArray, t = ⟨(Lib.itoa q).toArray⟩ := ⟨_, rfl⟩
  have hts : t.size = (Lib.itoa q).length := by rw [ht]; rfl
  have hadd : ∀ W : World, (Op.stringOp .add t ((⟨#[48, 49, 50, 51, 52, 53, 54, 55, 56, 57]⟩ : ByteArray).extract r (r + 1))).run Tryd.prog W = .ok (.string (t ++ (⟨#[48, 49, 50, 51, 52, 53, 54, 55, 56, 57]⟩ : ByteArray).extract r (r + 1))) W := by
    intro W
    refine run_string_add_sum W _ _ ?_
    rw [hts, ByteArray.size_extract]
    omega
  rw [← ht] at hc hf
  have HC := Lib.hid hc
  have HF := Lib.hid hf
  clear hc hf ht hts hql
  go_enter Tryd.func11, Tryd.ntmps11
  go_wp2_with fail
  go_quiet ((go_at_call 11; exact Calls.quiet_of (HC.out _)))
  clear hw hw2 hw3 hw4 hw5 hw6 hadd
  go_wp2_with fail
  go_ret
  exact ⟨congrArg (fun s => Ending.returned (Value.string s)) HF.out, _, rfl⟩
/-- The last region of the reference's Text, at a number below 0. -/
theorem rtext_neg (n q : Int) (r : Nat) (w : World) (h1 : n ≤ -10) (h2 : -9223372036854775808 ≤ n) (hr10 : r < 10) (hr0 : 0 < r) (hm : n.tmod 10 = -(r : Int)) (hq : n.tdiv 10 = q) (hqb : -922337203685477580 ≤ q ∧ q < 0)
    (hc : ∀ W, Calls Tryd.prog 11 #[.int .i64 q] W fun e w' => e = .returned (.string ⟨(Lib.itoa q).toArray⟩) ∧ ∃ m, w' = W.drewN m)
    (hf : (⟨(Lib.itoa q).toArray⟩ : ByteArray) ++ digits.extract r (r + 1) = ⟨(Lib.itoa n).toArray⟩) :
    Calls Tryd.prog 11 #[.int .i64 n] w fun e w' => e = .returned (.string ⟨(Lib.itoa n).toArray⟩) ∧ ∃ m, w' = w.drewN m := by
  have hw : IntKind.i64.wrap (n.tdiv 10) = q := by
    rw [hq]
    exact IntWalk.i64_in _ (by omega)
  have hw2 : IntKind.i64.wrap ((r : Int) + 1) = (r : Int) + 1 := IntWalk.i64_in _ (by omega)
  have hw3 : 0 ≤ (r : Int) + 1 := by omega
  have hw4 : ((r : Int) + 1).toNat = r + 1 := by omega
  have hw5 : (r : Int) ≤ (r : Int) + 1 := by omega
  have hw6 : (r : Int) + 1 ≤ 10 := by omega
  have hql : (Lib.itoa q).length ≤ 21 := Lib.itoa_length_le q (by omega) (by omega)
  obtain ⟨t, ht⟩ : ∃ t : ByteArray, t = ⟨(Lib.itoa q).toArray⟩ := ⟨_, rfl⟩
  have hts : t.size = (Lib.itoa q).length := by rw [ht]; rfl
  have hadd : ∀ W : World, (Op.stringOp .add t ((⟨#[48, 49, 50, 51, 52, 53, 54, 55, 56, 57]⟩ : ByteArray).extract r (r + 1))).run Tryd.prog W = .ok (.string (t ++ (⟨#[48, 49, 50, 51, 52, 53, 54, 55, 56, 57]⟩ : ByteArray).extract r (r + 1))) W := by
    intro W
    refine run_string_add_sum W _ _ ?_
    rw [hts, ByteArray.size_extract]
    omega
  rw [← ht] at hc hf
  have HC := Lib.hid hc
  have HF := Lib.hid hf
  clear hc hf ht hts hql
  go_enter Tryd.func11, Tryd.ntmps11
  go_wp2_with fail
  go_quiet ((go_at_call 11; exact Calls.quiet_of (HC.out _)))
  clear hw hw2 hw3 hw4 hw5 hw6 hadd
  go_wp2_with fail
  go_ret
  exact ⟨congrArg (fun s => Ending.returned (Value.string s)) HF.out, _, rfl⟩

/-- The last region of the reference's Text, at a number below 0. -/
theorem rtext_zero (n q : Int) (w : World) (h1 : n ≤ -10) (h2 : -9223372036854775808 ≤ n) (hm : n.tmod 10 = 0) (hq : n.tdiv 10 = q) (hqb : -922337203685477580 ≤ q ∧ q < 0)
    (hc : ∀ W, Calls Tryd.prog 11 #[.int .i64 q] W fun e w' => e = .returned (.string ⟨(Lib.itoa q).toArray⟩) ∧ ∃ m, w' = W.drewN m)
    (hf : (⟨(Lib.itoa q).toArray⟩ : ByteArray) ++ digits.extract 0 1 = ⟨(Lib.itoa n).toArray⟩) :
    Calls Tryd.prog 11 #[.int .i64 n] w fun e w' => e = .returned (.string ⟨(Lib.itoa n).toArray⟩) ∧ ∃ m, w' = w.drewN m := by
  have hw : IntKind.i64.wrap (n.tdiv 10) = q := by
    rw [hq]
    exact IntWalk.i64_in _ (by omega)
  have hql : (Lib.itoa q).length ≤ 21 := Lib.itoa_length_le q (by omega) (by omega)
  obtain ⟨t, ht⟩ : ∃ t : ByteArray, t = ⟨(Lib.itoa q).toArray⟩ := ⟨_, rfl⟩
  have hts : t.size = (Lib.itoa q).length := by rw [ht]; rfl
  have hadd : ∀ W : World, (Op.stringOp .add t ((⟨#[48, 49, 50, 51, 52, 53, 54, 55, 56, 57]⟩ : ByteArray).extract 0 1)).run Tryd.prog W = .ok (.string (t ++ (⟨#[48, 49, 50, 51, 52, 53, 54, 55, 56, 57]⟩ : ByteArray).extract 0 1)) W := by
    intro W
    refine run_string_add_sum W _ _ ?_
    rw [hts, ByteArray.size_extract]
    omega
  rw [← ht] at hc hf
  have HC := Lib.hid hc
  have HF := Lib.hid hf
  clear hc hf ht hts hql
  go_enter Tryd.func11, Tryd.ntmps11
  go_wp2_with fail
  go_quiet ((go_at_call 11; exact Calls.quiet_of (HC.out _)))
  clear hw hadd
  go_wp2_with fail
  go_ret
  exact ⟨congrArg (fun s => Ending.returned (Value.string s)) HF.out, _, rfl⟩

theorem rtext_any (k : Nat) : ∀ (n : Int) (w : World), n.natAbs ≤ k → -9223372036854775808 ≤ n → n ≤ 9223372036854775807 →
    Calls Tryd.prog 11 #[.int .i64 n] w fun e w' => e = .returned (.string ⟨(Lib.itoa n).toArray⟩) ∧ ∃ m, w' = w.drewN m := by
  induction k with
  | zero => exact fun n w hk _ _ => rtext_small n w (by omega)
  | succ k ih =>
    intro n w hk h0 h1
    by_cases hs : n.natAbs < 10
    · exact rtext_small n w hs
    · have HS := itoa_step (n := n) (by omega)
      have hf : (⟨(Lib.itoa (n.tdiv 10)).toArray⟩ : ByteArray) ++ digits.extract (n.natAbs % 10) (n.natAbs % 10 + 1) = ⟨(Lib.itoa n).toArray⟩ := by
        rw [HS, digits_piece _ (by omega)]
        exact bytes_cat _ _
      by_cases hn : n < 0
      · obtain ⟨e1, e2⟩ := tdiv10_neg hn
        by_cases hz : n.natAbs % 10 = 0
        · have e3 : n.tmod 10 = 0 := by omega
          rw [hz] at hf
          exact rtext_zero n (n.tdiv 10) w (by omega) h0 e3 rfl (by omega) (fun W => ih _ W (by omega) (by omega) (by omega)) hf
        · exact rtext_neg n (n.tdiv 10) (n.natAbs % 10) w (by omega) h0 (by omega) (by omega) e2 rfl (by omega) (fun W => ih _ W (by omega) (by omega) (by omega)) hf
      · have e1 : n / 10 = n.tdiv 10 := by rw [Int.tdiv_eq_ediv_of_nonneg (by omega)]
        exact rtext_pos n (n.tdiv 10) (n.natAbs % 10) w (by omega) h1 (by omega) (by omega) e1 (fun W => ih _ W (by omega) (by omega) (by omega)) hf
end Go.Proofs.YtdkmdkiffohlmaaDoor
