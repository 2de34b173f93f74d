/- The walks over the library's searches, at values, counted values and statistics; rows of values that may be. -/
import Derived.Test.YtmhpbmobfdgkeaaHm02
namespace Go.Proofs.Ytmhpbmobfdgkeaa
open Go.RowKit
/-- The place of the first one of which P holds, or -1. -/
def FirstAt {α : Type} (P : α → Prop) (l : List α) (w : World) (e : Ending) (w' : World) : Prop :=
  ∃ k : Int, e = .returned (.int .i64 k) ∧ ((k = -1 ∧ ∀ x ∈ l, ¬ P x) ∨ ∃ (i : Nat) (h : i < l.length), k = (i : Int) ∧ P l[i] ∧ ∀ j (hj : j < i), ¬ P (l[j]'(by omega))) ∧ Below w.heap.size w w'
theorem first_no {α : Type} {P : α → Prop} {l : List α} {w w' : World} (h : ∀ j (hj : j < l.length), ¬ P l[j]) (hb : Below w.heap.size w w') : FirstAt P l w (.returned (.int .i64 (-1))) w' :=
  ⟨-1, rfl, .inl ⟨rfl, fun x hx => by obtain ⟨j, hj, rfl⟩ := List.getElem_of_mem hx; exact h j hj⟩, hb⟩
theorem first_yes {α : Type} {P : α → Prop} {l : List α} {w w' : World} {k : Nat} (hk : k < l.length) (hp : P l[k]) (h : ∀ j (hj : j < l.length), j < k → ¬ P l[j]) (hb : Below w.heap.size w w') : FirstAt P l w (.returned (.int .i64 (k : Int))) w' :=
  ⟨(k : Int), rfl, .inr ⟨k, hk, rfl, hp, fun j hj => h j (by omega) hj⟩, hb⟩
set_option maxRecDepth 100000 in
set_option maxHeartbeats 1000000 in
theorem indexR_any (P : Sp.Val → Prop) (g : Nat) (cb : Array Value) (eg : ∀ args w, (callFunc g args).run Try.prog w = .ok (.enter g args) w) (l : List Sp.Val) (hl : l.length ≤ 140737488355328) (A : Option Addr) (c : Nat) (w : World) (hr : Reads w A c l.length (l.flatMap valC))
    (hc : ∀ x ∈ l, ∀ W, Below w.heap.size w W → Calls Try.prog g (#[.agg (valA x)] ++ cb) W (Says (P x) W)) :
    Calls Try.prog 49 #[.slice A l.length c, .func (.func g) #[] cb] w (FirstAt P l w) := by
  have HR := Lib.hid hr
  have HC := Lib.hid hc
  have HNO := Lib.hid (fun h w' hb => first_no (P := P) (l := l) (w := w) (w' := w') h hb)
  have HYES := Lib.hid (fun k hk hp h w' hb => first_yes (P := P) (l := l) (w := w) (w' := w') (k := k) hk hp h hb)
  generalize FirstAt P l w = Q at HNO HYES ⊢
  clear hr hc
  go_enter Try.func49, Try.ntmps49
  go_wp2_with fail
  go_loopw [8] (fun i wr => ∃ k : Nat, k ≤ l.length ∧ i = .int .i64 k ∧ (∀ j (hj : j < l.length), j < k → ¬ P l[j]) ∧ Below w.heap.size w wr) (fun i _ => l.length - (intOf i).toNat)
  case atStart => exact ⟨0, Nat.zero_le _, rfl, fun _ _ h => absurd h (by omega), Below.refl _ _⟩
  case round =>
    obtain ⟨k, hk, rfl, hall, hbw⟩ := hrel
    have HA := Lib.hid hall
    clear hall
    by_cases hlt : k < l.length
    · obtain ⟨b, off, rfl, hca, hbl, hcell⟩ := read_at valC_len (HR.out.below hbw) hlt
      have HY := Lib.hid (fun hp => HYES.out k hlt hp HA.out)
      have HN := Lib.hid (show ¬ P l[k] → ∀ j (hj : j < l.length), j < k + 1 → ¬ P l[j] from fun h j hj hjk => by
        rcases Nat.lt_or_eq_of_le (Nat.le_of_lt_succ hjk) with h1 | h1
        · exact HA.out j hj h1
        · subst h1; exact h)
      have hcx := HC.out l[k] (List.getElem_mem hlt) wr hbw
      generalize l[k] = x at hcell HY HN hcx
      obtain ⟨vk, vn, vs⟩ := x
      have HCELL := Lib.hid (show wr.rangeAt b (off + k * 3) [.int .i64 vk, .int .i64 vn, .string vs] from hcell)
      have HCX := Lib.hid hcx
      clear hcell HA hcx
      dsimp only [valA] at HCX
      have hk0 : (0 : Int) ≤ (k : Int) := by omega
      have hki : (k : Int) < (l.length : Int) := by omega
      have hwk : IntKind.i64.wrap ((k : Int) + 1) = (k : Int) + 1 := IntWalk.i64_in _ (by omega)
      by_cases hp : P ⟨vk, vn, vs⟩
      · have HP := Lib.hid hp
        clear hp hca
        go_wp2_with (first
          | (with_reducible refine wpList_load_mid rfl 36 (.tmp 14) rfl b (off + k * 3) rfl [.int .i64 vk, .int .i64 vn, .string vs] _ HCELL.out Try.underlying36 (by kernel_rfl) (by kernel_rfl) ?_)
          | (go_at_fn g; (with_reducible refine HCX.out.mono ?_); rintro e w2 ⟨q, rfl, hq, hb2⟩; obtain rfl : q = true := hq.2 HP.out; clear hq))
        exact HY.out HP.out _ (joinB hbw hb2)
      · have HP := Lib.hid hp
        clear hp hca
        go_wp2_with (first
          | (with_reducible refine wpList_load_mid rfl 36 (.tmp 14) rfl b (off + k * 3) rfl [.int .i64 vk, .int .i64 vn, .string vs] _ HCELL.out Try.underlying36 (by kernel_rfl) (by kernel_rfl) ?_)
          | (go_at_fn g; (with_reducible refine HCX.out.mono ?_); rintro e w2 ⟨q, rfl, hq, hb2⟩; obtain rfl : q = false := (by cases q with | true => exact absurd (hq.1 rfl) HP.out | false => rfl); clear hq))
        go_roundw
        case rel => exact ⟨k + 1, by omega, by go_num, HN.out HP.out, joinB hbw hb2⟩
        case measure => simp [intOf]; omega
    · have HF := Lib.hid (HNO.out (fun j hj => HA.out j hj (by omega)) _ hbw)
      go_wp2_with fail
      exact HF.out
set_option maxRecDepth 100000 in
set_option maxHeartbeats 1000000 in
theorem indexV_any (P : Sp.Val → Prop) (g : Nat) (cb : Array Value) (eg : ∀ args w, (callFunc g args).run Try.prog w = .ok (.enter g args) w) (l : List Sp.Val) (hl : l.length ≤ 140737488355328) (A : Option Addr) (c : Nat) (w : World) (hr : Reads w A c l.length (l.flatMap valC))
    (hc : ∀ x ∈ l, ∀ W, Below w.heap.size w W → Calls Try.prog g (#[.agg (valA x)] ++ cb) W (Says (P x) W)) :
    Calls Try.prog 63 #[.slice A l.length c, .func (.func g) #[] cb] w (FirstAt P l w) := by
  have HR := Lib.hid hr
  have HC := Lib.hid hc
  have HNO := Lib.hid (fun h w' hb => first_no (P := P) (l := l) (w := w) (w' := w') h hb)
  have HYES := Lib.hid (fun k hk hp h w' hb => first_yes (P := P) (l := l) (w := w) (w' := w') (k := k) hk hp h hb)
  generalize FirstAt P l w = Q at HNO HYES ⊢
  clear hr hc
  go_enter Try.func63, Try.ntmps63
  go_wp2_with fail
  go_loopw [8] (fun i wr => ∃ k : Nat, k ≤ l.length ∧ i = .int .i64 k ∧ (∀ j (hj : j < l.length), j < k → ¬ P l[j]) ∧ Below w.heap.size w wr) (fun i _ => l.length - (intOf i).toNat)
  case atStart => exact ⟨0, Nat.zero_le _, rfl, fun _ _ h => absurd h (by omega), Below.refl _ _⟩
  case round =>
    obtain ⟨k, hk, rfl, hall, hbw⟩ := hrel
    have HA := Lib.hid hall
    clear hall
    by_cases hlt : k < l.length
    · obtain ⟨b, off, rfl, hca, hbl, hcell⟩ := read_at valC_len (HR.out.below hbw) hlt
      have HY := Lib.hid (fun hp => HYES.out k hlt hp HA.out)
      have HN := Lib.hid (show ¬ P l[k] → ∀ j (hj : j < l.length), j < k + 1 → ¬ P l[j] from fun h j hj hjk => by
        rcases Nat.lt_or_eq_of_le (Nat.le_of_lt_succ hjk) with h1 | h1
        · exact HA.out j hj h1
        · subst h1; exact h)
      have hcx := HC.out l[k] (List.getElem_mem hlt) wr hbw
      generalize l[k] = x at hcell HY HN hcx
      obtain ⟨vk, vn, vs⟩ := x
      have HCELL := Lib.hid (show wr.rangeAt b (off + k * 3) [.int .i64 vk, .int .i64 vn, .string vs] from hcell)
      have HCX := Lib.hid hcx
      clear hcell HA hcx
      dsimp only [valA] at HCX
      have hk0 : (0 : Int) ≤ (k : Int) := by omega
      have hki : (k : Int) < (l.length : Int) := by omega
      have hwk : IntKind.i64.wrap ((k : Int) + 1) = (k : Int) + 1 := IntWalk.i64_in _ (by omega)
      by_cases hp : P ⟨vk, vn, vs⟩
      · have HP := Lib.hid hp
        clear hp hca
        go_wp2_with (first
          | (with_reducible refine wpList_load_mid rfl 36 (.tmp 14) rfl b (off + k * 3) rfl [.int .i64 vk, .int .i64 vn, .string vs] _ HCELL.out Try.underlying36 (by kernel_rfl) (by kernel_rfl) ?_)
          | (go_at_fn g; (with_reducible refine HCX.out.mono ?_); rintro e w2 ⟨q, rfl, hq, hb2⟩; obtain rfl : q = true := hq.2 HP.out; clear hq))
        exact HY.out HP.out _ (joinB hbw hb2)
      · have HP := Lib.hid hp
        clear hp hca
        go_wp2_with (first
          | (with_reducible refine wpList_load_mid rfl 36 (.tmp 14) rfl b (off + k * 3) rfl [.int .i64 vk, .int .i64 vn, .string vs] _ HCELL.out Try.underlying36 (by kernel_rfl) (by kernel_rfl) ?_)
          | (go_at_fn g; (with_reducible refine HCX.out.mono ?_); rintro e w2 ⟨q, rfl, hq, hb2⟩; obtain rfl : q = false := (by cases q with | true => exact absurd (hq.1 rfl) HP.out | false => rfl); clear hq))
        go_roundw
        case rel => exact ⟨k + 1, by omega, by go_num, HN.out HP.out, joinB hbw hb2⟩
        case measure => simp [intOf]; omega
    · have HF := Lib.hid (HNO.out (fun j hj => HA.out j hj (by omega)) _ hbw)
      go_wp2_with fail
      exact HF.out
set_option maxRecDepth 100000 in
set_option maxHeartbeats 1000000 in
theorem indexO_any (P : Sp.Oft → Prop) (g : Nat) (cb : Array Value) (eg : ∀ args w, (callFunc g args).run Try.prog w = .ok (.enter g args) w) (l : List Sp.Oft) (hl : l.length ≤ 140737488355328) (A : Option Addr) (c : Nat) (w : World) (hr : Reads w A c l.length (l.flatMap oftC))
    (hc : ∀ x ∈ l, ∀ W, Below w.heap.size w W → Calls Try.prog g (#[.agg (oftA x)] ++ cb) W (Says (P x) W)) :
    Calls Try.prog 66 #[.slice A l.length c, .func (.func g) #[] cb] w (FirstAt P l w) := by
  have HR := Lib.hid hr
  have HC := Lib.hid hc
  have HNO := Lib.hid (fun h w' hb => first_no (P := P) (l := l) (w := w) (w' := w') h hb)
  have HYES := Lib.hid (fun k hk hp h w' hb => first_yes (P := P) (l := l) (w := w) (w' := w') (k := k) hk hp h hb)
  generalize FirstAt P l w = Q at HNO HYES ⊢
  clear hr hc
  go_enter Try.func66, Try.ntmps66
  go_wp2_with fail
  go_loopw [8] (fun i wr => ∃ k : Nat, k ≤ l.length ∧ i = .int .i64 k ∧ (∀ j (hj : j < l.length), j < k → ¬ P l[j]) ∧ Below w.heap.size w wr) (fun i _ => l.length - (intOf i).toNat)
  case atStart => exact ⟨0, Nat.zero_le _, rfl, fun _ _ h => absurd h (by omega), Below.refl _ _⟩
  case round =>
    obtain ⟨k, hk, rfl, hall, hbw⟩ := hrel
    have HA := Lib.hid hall
    clear hall
    by_cases hlt : k < l.length
    · obtain ⟨b, off, rfl, hca, hbl, hcell⟩ := read_at oftC_len (HR.out.below hbw) hlt
      have HY := Lib.hid (fun hp => HYES.out k hlt hp HA.out)
      have HN := Lib.hid (show ¬ P l[k] → ∀ j (hj : j < l.length), j < k + 1 → ¬ P l[j] from fun h j hj hjk => by
        rcases Nat.lt_or_eq_of_le (Nat.le_of_lt_succ hjk) with h1 | h1
        · exact HA.out j hj h1
        · subst h1; exact h)
      have hcx := HC.out l[k] (List.getElem_mem hlt) wr hbw
      generalize l[k] = x at hcell HY HN hcx
      obtain ⟨⟨vk, vn, vs⟩, vc⟩ := x
      have HCELL := Lib.hid (show wr.rangeAt b (off + k * 4) [.int .i64 vk, .int .i64 vn, .string vs, .int .i64 vc] from hcell)
      have HCX := Lib.hid hcx
      clear hcell HA hcx
      dsimp only [oftA] at HCX
      have hk0 : (0 : Int) ≤ (k : Int) := by omega
      have hki : (k : Int) < (l.length : Int) := by omega
      have hwk : IntKind.i64.wrap ((k : Int) + 1) = (k : Int) + 1 := IntWalk.i64_in _ (by omega)
      by_cases hp : P ⟨⟨vk, vn, vs⟩, vc⟩
      · have HP := Lib.hid hp
        clear hp hca
        go_wp2_with (first
          | (with_reducible refine wpList_load_mid rfl 48 (.tmp 14) rfl b (off + k * 4) rfl [.int .i64 vk, .int .i64 vn, .string vs, .int .i64 vc] _ HCELL.out Try.underlying48 (by kernel_rfl) (by kernel_rfl) ?_)
          | (go_at_fn g; (with_reducible refine HCX.out.mono ?_); rintro e w2 ⟨q, rfl, hq, hb2⟩; obtain rfl : q = true := hq.2 HP.out; clear hq))
        exact HY.out HP.out _ (joinB hbw hb2)
      · have HP := Lib.hid hp
        clear hp hca
        go_wp2_with (first
          | (with_reducible refine wpList_load_mid rfl 48 (.tmp 14) rfl b (off + k * 4) rfl [.int .i64 vk, .int .i64 vn, .string vs, .int .i64 vc] _ HCELL.out Try.underlying48 (by kernel_rfl) (by kernel_rfl) ?_)
          | (go_at_fn g; (with_reducible refine HCX.out.mono ?_); rintro e w2 ⟨q, rfl, hq, hb2⟩; obtain rfl : q = false := (by cases q with | true => exact absurd (hq.1 rfl) HP.out | false => rfl); clear hq))
        go_roundw
        case rel => exact ⟨k + 1, by omega, by go_num, HN.out HP.out, joinB hbw hb2⟩
        case measure => simp [intOf]; omega
    · have HF := Lib.hid (HNO.out (fun j hj => HA.out j hj (by omega)) _ hbw)
      go_wp2_with fail
      exact HF.out
theorem containsR_any (P : Sp.Val → Prop) (g : Nat) (cb : Array Value) (eg : ∀ args w, (callFunc g args).run Try.prog w = .ok (.enter g args) w) (l : List Sp.Val) (hl : l.length ≤ 140737488355328) (A : Option Addr) (c : Nat) (w : World) (hr : Reads w A c l.length (l.flatMap valC))
    (hc : ∀ x ∈ l, ∀ W, Below w.heap.size w W → Calls Try.prog g (#[.agg (valA x)] ++ cb) W (Says (P x) W)) :
    Calls Try.prog 22 #[.slice A l.length c, .func (.func g) #[] cb] w (Says (∃ x ∈ l, P x) w) := by
  have HI := Lib.hid (indexR_any P g cb eg l hl A c w hr hc)
  have HY := Lib.hid (fun (h : ∃ x ∈ l, P x) w' (e : Ending) (he : e = .returned (.bool true)) hb => says_yes (w := w) (w' := w') h he hb)
  have HN := Lib.hid (fun (h : ¬ ∃ x ∈ l, P x) w' (e : Ending) (he : e = .returned (.bool false)) hb => says_no (w := w) (w' := w') h he hb)
  clear hr hc
  generalize Says (∃ x ∈ l, P x) w = Q at HY HN ⊢
  go_enter Try.func22, Try.ntmps22
  by_cases hx : ∃ x ∈ l, P x
  · have HX := Lib.hid (HY.out hx)
    have HZ := Lib.hid hx
    clear hx HY HN
    go_wp2_with (go_at_call 49; (with_reducible refine HI.out.mono ?_); rintro e w2 ⟨q, rfl, hq, hb2⟩; obtain ⟨i, rfl⟩ : ∃ i : Nat, q = (i : Int) := (by rcases hq with ⟨_, h⟩ | ⟨i, _, h, _⟩; (· obtain ⟨x, hx, hp⟩ := HZ.out; exact absurd hp (h x hx)); (· exact ⟨i, h⟩)); have hi0 : (0 : Int) ≤ (i : Int) := (by omega); clear hq)
    exact HX.out _ _ (by simp) hb2
  · have HX := Lib.hid (HN.out hx)
    have HZ := Lib.hid hx
    clear hx HY HN
    go_wp2_with (go_at_call 49; (with_reducible refine HI.out.mono ?_); rintro e w2 ⟨q, rfl, hq, hb2⟩; obtain rfl : q = -1 := (by rcases hq with ⟨h, _⟩ | ⟨i, hi, _, hp, _⟩; (· exact h); (· exact absurd ⟨_, List.getElem_mem hi, hp⟩ HZ.out)); clear hq)
    exact HX.out _ _ (by simp) hb2
theorem containsV_any (P : Sp.Val → Prop) (g : Nat) (cb : Array Value) (eg : ∀ args w, (callFunc g args).run Try.prog w = .ok (.enter g args) w) (l : List Sp.Val) (hl : l.length ≤ 140737488355328) (A : Option Addr) (c : Nat) (w : World) (hr : Reads w A c l.length (l.flatMap valC))
    (hc : ∀ x ∈ l, ∀ W, Below w.heap.size w W → Calls Try.prog g (#[.agg (valA x)] ++ cb) W (Says (P x) W)) :
    Calls Try.prog 54 #[.slice A l.length c, .func (.func g) #[] cb] w (Says (∃ x ∈ l, P x) w) := by
  have HI := Lib.hid (indexV_any P g cb eg l hl A c w hr hc)
  have HY := Lib.hid (fun (h : ∃ x ∈ l, P x) w' (e : Ending) (he : e = .returned (.bool true)) hb => says_yes (w := w) (w' := w') h he hb)
  have HN := Lib.hid (fun (h : ¬ ∃ x ∈ l, P x) w' (e : Ending) (he : e = .returned (.bool false)) hb => says_no (w := w) (w' := w') h he hb)
  clear hr hc
  generalize Says (∃ x ∈ l, P x) w = Q at HY HN ⊢
  go_enter Try.func54, Try.ntmps54
  by_cases hx : ∃ x ∈ l, P x
  · have HX := Lib.hid (HY.out hx)
    have HZ := Lib.hid hx
    clear hx HY HN
    go_wp2_with (go_at_call 63; (with_reducible refine HI.out.mono ?_); rintro e w2 ⟨q, rfl, hq, hb2⟩; obtain ⟨i, rfl⟩ : ∃ i : Nat, q = (i : Int) := (by rcases hq with ⟨_, h⟩ | ⟨i, _, h, _⟩; (· obtain ⟨x, hx, hp⟩ := HZ.out; exact absurd hp (h x hx)); (· exact ⟨i, h⟩)); have hi0 : (0 : Int) ≤ (i : Int) := (by omega); clear hq)
    exact HX.out _ _ (by simp) hb2
  · have HX := Lib.hid (HN.out hx)
    have HZ := Lib.hid hx
    clear hx HY HN
    go_wp2_with (go_at_call 63; (with_reducible refine HI.out.mono ?_); rintro e w2 ⟨q, rfl, hq, hb2⟩; obtain rfl : q = -1 := (by rcases hq with ⟨h, _⟩ | ⟨i, hi, _, hp, _⟩; (· exact h); (· exact absurd ⟨_, List.getElem_mem hi, hp⟩ HZ.out)); clear hq)
    exact HX.out _ _ (by simp) hb2
end Go.Proofs.Ytmhpbmobfdgkeaa
/- The walks over what may be: closures, rows, the reference. -/
namespace Go.Proofs.Ytmhpbmobfdgkeaa
open Go.RowKit
/-- A value as an argument holds it. -/
structure ValB (v : Sp.Val) : Prop where
  lo : -9223372036854775808 ≤ v.n
  hi : v.n ≤ 9223372036854775807
  s : v.s.size ≤ 140737488355328
theorem q_true {q : Bool} {p : Prop} (h : q = true ↔ p) (hp : p) : q = true := h.2 hp
theorem q_false {q : Bool} {p : Prop} (h : q = true ↔ p) (hp : ¬ p) : q = false := by
  cases q with
  | true => exact absurd (h.1 rfl) hp
  | false => rfl
set_option maxRecDepth 100000 in
set_option maxHeartbeats 4000000 in
theorem rights1_any (a : Sp.Val) (hv : ValB a) (w : World) : Calls Try.prog 23 #[.agg (valA a)] w (Says (¬ Sp.rightV a) w) := by
  have HR := Lib.hid (fun W => right_any a hv.lo hv.hi W)
  obtain ⟨ak, an, sa⟩ := a
  clear hv
  dsimp only [valA] at HR ⊢
  by_cases hp : Sp.rightV ⟨ak, an, sa⟩
  · have HP := Lib.hid hp
    generalize Sp.rightV ⟨ak, an, sa⟩ = p at HP HR ⊢
    clear hp
    go_enter Try.func23, Try.ntmps23
    go_upto_region 1 with fail
    have H0 := Lib.hid (show BxL w.heap.size w [(#[.int .i64 ak, .int .i64 an, .string sa], 36)] (w.alloc (.cells #[.int .i64 ak, .int .i64 an, .string sa] 36)) from ((BxL.nil (Below.refl w.heap.size w)).new (by simp) #[.int .i64 ak, .int .i64 an, .string sa] 36))
    obtain ⟨W0, hW0⟩ : ∃ W, W = (w.alloc (.cells #[.int .i64 ak, .int .i64 an, .string sa] 36)) := ⟨_, rfl⟩
    rw [← hW0] at H0 ⊢
    clear hW0
    go_wp2_with (first | (with_reducible refine listLoad (by kernel_rfl) 36 (.tmp 1) rfl w.heap.size rfl #[.int .i64 ak, .int .i64 an, .string sa] _ H0.out.get0 _ Try.underlying36 (by kernel_rfl) (by kernel_rfl) ?_) | (go_at_call 24; (with_reducible refine (HR.out _).mono ?_); rintro e w2 ⟨q, rfl, hq, hb2⟩; obtain rfl := q_true hq HP.out; clear hq))
    go_ret
    exact says_no (fun h => h HP.out) (by simp) (H0.out.step hb2).below
  · have HP := Lib.hid hp
    generalize Sp.rightV ⟨ak, an, sa⟩ = p at HP HR ⊢
    clear hp
    go_enter Try.func23, Try.ntmps23
    go_upto_region 1 with fail
    have H0 := Lib.hid (show BxL w.heap.size w [(#[.int .i64 ak, .int .i64 an, .string sa], 36)] (w.alloc (.cells #[.int .i64 ak, .int .i64 an, .string sa] 36)) from ((BxL.nil (Below.refl w.heap.size w)).new (by simp) #[.int .i64 ak, .int .i64 an, .string sa] 36))
    obtain ⟨W0, hW0⟩ : ∃ W, W = (w.alloc (.cells #[.int .i64 ak, .int .i64 an, .string sa] 36)) := ⟨_, rfl⟩
    rw [← hW0] at H0 ⊢
    clear hW0
    go_wp2_with (first | (with_reducible refine listLoad (by kernel_rfl) 36 (.tmp 1) rfl w.heap.size rfl #[.int .i64 ak, .int .i64 an, .string sa] _ H0.out.get0 _ Try.underlying36 (by kernel_rfl) (by kernel_rfl) ?_) | (go_at_call 24; (with_reducible refine (HR.out _).mono ?_); rintro e w2 ⟨q, rfl, hq, hb2⟩; obtain rfl := q_false hq HP.out; clear hq))
    go_ret
    exact says_yes HP.out (by simp) (H0.out.step hb2).below
theorem rights_any (l : List Sp.Val) (hl : l.length ≤ 140737488355328) (hv : ∀ v ∈ l, ValB v) (A : Option Addr) (c : Nat) (w : World) (hr : Reads w A c l.length (l.flatMap valC)) :
    Calls Try.prog 11 #[.slice A l.length c] w (Says (∀ v ∈ l, Sp.rightV v) w) := by
  have HC := Lib.hid (containsR_any (fun v => ¬ Sp.rightV v) 23 #[] (enters_of Try.func23 (by kernel_rfl) rfl) l hl A c w hr (fun x hx W _ => rights1_any x (hv x hx) W))
  clear hr
  by_cases hp : ∀ v ∈ l, Sp.rightV v
  · have HN := Lib.hid (show ¬ ∃ v ∈ l, ¬ Sp.rightV v from fun h => by obtain ⟨v, h1, h2⟩ := h; exact h2 (hp v h1))
    have HP := Lib.hid hp
    clear hp hv
    generalize (∃ v ∈ l, ¬ Sp.rightV v) = p at HN HC
    generalize (∀ v ∈ l, Sp.rightV v) = p2 at HP ⊢
    go_enter Try.func11, Try.ntmps11
    go_wp2_with (go_at_call 22; (with_reducible refine HC.out.mono ?_); rintro e w2 ⟨q, rfl, hq, hb2⟩; obtain rfl := q_false hq HN.out; clear hq)
    go_ret
    exact says_yes HP.out (by simp) hb2
  · have HN := Lib.hid (show ∃ v ∈ l, ¬ Sp.rightV v from Classical.byContradiction fun h => hp fun v hv' => Classical.byContradiction fun h2 => h ⟨v, hv', h2⟩)
    have HP := Lib.hid hp
    clear hp hv
    generalize (∃ v ∈ l, ¬ Sp.rightV v) = p at HN HC
    generalize (∀ v ∈ l, Sp.rightV v) = p2 at HP ⊢
    go_enter Try.func11, Try.ntmps11
    go_wp2_with (go_at_call 22; (with_reducible refine HC.out.mono ?_); rintro e w2 ⟨q, rfl, hq, hb2⟩; obtain rfl := q_true hq HN.out; clear hq)
    go_ret
    exact says_no HP.out (by simp) hb2
set_option maxRecDepth 100000 in
set_option maxHeartbeats 4000000 in
theorem good_any (a : Sp.Val) (hv : ValB a) (w : World) : Calls Try.prog 53 #[.agg (valA a)] w (Says (Sp.goodV a) w) := by
  have HR := Lib.hid (fun W => right_any a hv.lo hv.hi W)
  have HK := Lib.hid (fun W => known_any a W)
  have HKI := Lib.hid (@Sp.known_iff a)
  have HG := Lib.hid (show Sp.goodV a ↔ Sp.rightV a ∧ a ≠ Sp.nullV from Iff.rfl)
  generalize Sp.known a = kb at HK HKI
  generalize Sp.goodV a = g at HG ⊢
  generalize Sp.rightV a = p at HR HG
  generalize (a ≠ Sp.nullV) = z at HKI HG
  obtain ⟨ak, an, sa⟩ := a
  clear hv
  dsimp only [valA] at HR HK ⊢
  by_cases hp : p
  · cases kb with
    | true =>
      have HP := Lib.hid hp
      have HF := Lib.hid (HG.out.2 ⟨hp, HKI.out.1 rfl⟩)
      clear hp
      go_enter Try.func53, Try.ntmps53
      go_upto_region 1 with fail
      have H0 := Lib.hid (show BxL w.heap.size w [(#[.int .i64 ak, .int .i64 an, .string sa], 36)] (w.alloc (.cells #[.int .i64 ak, .int .i64 an, .string sa] 36)) from ((BxL.nil (Below.refl w.heap.size w)).new (by simp) #[.int .i64 ak, .int .i64 an, .string sa] 36))
      obtain ⟨W0, hW0⟩ : ∃ W, W = (w.alloc (.cells #[.int .i64 ak, .int .i64 an, .string sa] 36)) := ⟨_, rfl⟩
      rw [← hW0] at H0 ⊢
      clear hW0
      go_wp2_with (first | (with_reducible refine listLoad (by kernel_rfl) 36 (.tmp 1) rfl w.heap.size rfl #[.int .i64 ak, .int .i64 an, .string sa] _ H0.out.get0 _ Try.underlying36 (by kernel_rfl) (by kernel_rfl) ?_) | (with_reducible refine listLoad (by kernel_rfl) 36 (.tmp 1) rfl w.heap.size rfl #[.int .i64 ak, .int .i64 an, .string sa] _ H1.out.get0 _ Try.underlying36 (by kernel_rfl) (by kernel_rfl) ?_) | (go_at_call 36; (with_reducible refine (HK.out _).mono ?_); rintro e w3 ⟨rfl, hg3⟩) | (go_at_call 24; (with_reducible refine (HR.out _).mono ?_); rintro e w2 ⟨q, rfl, hq, hb2⟩; obtain rfl := q_true hq HP.out; clear hq; have H1 := Lib.hid (H0.out.step hb2)))
      go_ret
      exact says_yes HF.out (by simp) (H1.out.step hg3.below).below
    | false =>
      have HP := Lib.hid hp
      have HF : Hid (¬ g) := Lib.hid (fun h => by have h1 := HKI.out.2 (HG.out.1 h).2; cases h1)
      clear hp
      go_enter Try.func53, Try.ntmps53
      go_upto_region 1 with fail
      have H0 := Lib.hid (show BxL w.heap.size w [(#[.int .i64 ak, .int .i64 an, .string sa], 36)] (w.alloc (.cells #[.int .i64 ak, .int .i64 an, .string sa] 36)) from ((BxL.nil (Below.refl w.heap.size w)).new (by simp) #[.int .i64 ak, .int .i64 an, .string sa] 36))
      obtain ⟨W0, hW0⟩ : ∃ W, W = (w.alloc (.cells #[.int .i64 ak, .int .i64 an, .string sa] 36)) := ⟨_, rfl⟩
      rw [← hW0] at H0 ⊢
      clear hW0
      go_wp2_with (first | (with_reducible refine listLoad (by kernel_rfl) 36 (.tmp 1) rfl w.heap.size rfl #[.int .i64 ak, .int .i64 an, .string sa] _ H0.out.get0 _ Try.underlying36 (by kernel_rfl) (by kernel_rfl) ?_) | (with_reducible refine listLoad (by kernel_rfl) 36 (.tmp 1) rfl w.heap.size rfl #[.int .i64 ak, .int .i64 an, .string sa] _ H1.out.get0 _ Try.underlying36 (by kernel_rfl) (by kernel_rfl) ?_) | (go_at_call 36; (with_reducible refine (HK.out _).mono ?_); rintro e w3 ⟨rfl, hg3⟩) | (go_at_call 24; (with_reducible refine (HR.out _).mono ?_); rintro e w2 ⟨q, rfl, hq, hb2⟩; obtain rfl := q_true hq HP.out; clear hq; have H1 := Lib.hid (H0.out.step hb2)))
      go_ret
      exact says_no HF.out (by simp) (H1.out.step hg3.below).below
  · have HP := Lib.hid hp
    have HF : Hid (¬ g) := Lib.hid (fun h => hp (HG.out.1 h).1)
    clear hp
    go_enter Try.func53, Try.ntmps53
    go_upto_region 1 with fail
    have H0 := Lib.hid (show BxL w.heap.size w [(#[.int .i64 ak, .int .i64 an, .string sa], 36)] (w.alloc (.cells #[.int .i64 ak, .int .i64 an, .string sa] 36)) from ((BxL.nil (Below.refl w.heap.size w)).new (by simp) #[.int .i64 ak, .int .i64 an, .string sa] 36))
    obtain ⟨W0, hW0⟩ : ∃ W, W = (w.alloc (.cells #[.int .i64 ak, .int .i64 an, .string sa] 36)) := ⟨_, rfl⟩
    rw [← hW0] at H0 ⊢
    clear hW0
    go_wp2_with (first | (with_reducible refine listLoad (by kernel_rfl) 36 (.tmp 1) rfl w.heap.size rfl #[.int .i64 ak, .int .i64 an, .string sa] _ H0.out.get0 _ Try.underlying36 (by kernel_rfl) (by kernel_rfl) ?_) | (go_at_call 24; (with_reducible refine (HR.out _).mono ?_); rintro e w2 ⟨q, rfl, hq, hb2⟩; obtain rfl := q_false hq HP.out; clear hq; have H1 := Lib.hid (H0.out.step hb2)))
    go_ret
    exact says_no HF.out (by simp) H1.out.below
set_option maxRecDepth 100000 in
set_option maxHeartbeats 4000000 in
theorem ends1_any (a : Sp.Val) (hv : ValB a) (w : World) : Calls Try.prog 55 #[.agg (valA a)] w (Says (¬ Sp.goodV a) w) := by
  have HR := Lib.hid (fun W => good_any a hv W)
  obtain ⟨ak, an, sa⟩ := a
  clear hv
  dsimp only [valA] at HR ⊢
  by_cases hp : Sp.goodV ⟨ak, an, sa⟩
  · have HP := Lib.hid hp
    generalize Sp.goodV ⟨ak, an, sa⟩ = p at HP HR ⊢
    clear hp
    go_enter Try.func55, Try.ntmps55
    go_upto_region 1 with fail
    have H0 := Lib.hid (show BxL w.heap.size w [(#[.int .i64 ak, .int .i64 an, .string sa], 36)] (w.alloc (.cells #[.int .i64 ak, .int .i64 an, .string sa] 36)) from ((BxL.nil (Below.refl w.heap.size w)).new (by simp) #[.int .i64 ak, .int .i64 an, .string sa] 36))
    obtain ⟨W0, hW0⟩ : ∃ W, W = (w.alloc (.cells #[.int .i64 ak, .int .i64 an, .string sa] 36)) := ⟨_, rfl⟩
    rw [← hW0] at H0 ⊢
    clear hW0
    go_wp2_with (first | (with_reducible refine listLoad (by kernel_rfl) 36 (.tmp 1) rfl w.heap.size rfl #[.int .i64 ak, .int .i64 an, .string sa] _ H0.out.get0 _ Try.underlying36 (by kernel_rfl) (by kernel_rfl) ?_) | (go_at_call 53; (with_reducible refine (HR.out _).mono ?_); rintro e w2 ⟨q, rfl, hq, hb2⟩; obtain rfl := q_true hq HP.out; clear hq))
    go_ret
    exact says_no (fun h => h HP.out) (by simp) (H0.out.step hb2).below
  · have HP := Lib.hid hp
    generalize Sp.goodV ⟨ak, an, sa⟩ = p at HP HR ⊢
    clear hp
    go_enter Try.func55, Try.ntmps55
    go_upto_region 1 with fail
    have H0 := Lib.hid (show BxL w.heap.size w [(#[.int .i64 ak, .int .i64 an, .string sa], 36)] (w.alloc (.cells #[.int .i64 ak, .int .i64 an, .string sa] 36)) from ((BxL.nil (Below.refl w.heap.size w)).new (by simp) #[.int .i64 ak, .int .i64 an, .string sa] 36))
    obtain ⟨W0, hW0⟩ : ∃ W, W = (w.alloc (.cells #[.int .i64 ak, .int .i64 an, .string sa] 36)) := ⟨_, rfl⟩
    rw [← hW0] at H0 ⊢
    clear hW0
    go_wp2_with (first | (with_reducible refine listLoad (by kernel_rfl) 36 (.tmp 1) rfl w.heap.size rfl #[.int .i64 ak, .int .i64 an, .string sa] _ H0.out.get0 _ Try.underlying36 (by kernel_rfl) (by kernel_rfl) ?_) | (go_at_call 53; (with_reducible refine (HR.out _).mono ?_); rintro e w2 ⟨q, rfl, hq, hb2⟩; obtain rfl := q_false hq HP.out; clear hq))
    go_ret
    exact says_yes HP.out (by simp) (H0.out.step hb2).below
set_option maxRecDepth 100000 in
set_option maxHeartbeats 4000000 in
theorem of1_any (a : Sp.Val) (w : World) : Calls Try.prog 35 #[.agg (valA a)] w (Says (a = Sp.nullV) w) := by
  have HK := Lib.hid (fun W => known_any a W)
  have HKI := Lib.hid (@Sp.known_iff a)
  by_cases hp : a = Sp.nullV
  · have hk : Sp.known a = false := by
      cases h : Sp.known a with
      | true => exact absurd hp (HKI.out.1 h)
      | false => rfl
    rw [hk] at HK
    have HP := Lib.hid hp
    generalize (a = Sp.nullV) = p at HP ⊢
    clear hk hp HKI
    obtain ⟨ak, an, sa⟩ := a
    dsimp only [valA] at HK ⊢
    go_enter Try.func35, Try.ntmps35
    go_upto_region 1 with fail
    have H0 := Lib.hid (show BxL w.heap.size w [(#[.int .i64 ak, .int .i64 an, .string sa], 36)] (w.alloc (.cells #[.int .i64 ak, .int .i64 an, .string sa] 36)) from ((BxL.nil (Below.refl w.heap.size w)).new (by simp) #[.int .i64 ak, .int .i64 an, .string sa] 36))
    obtain ⟨W0, hW0⟩ : ∃ W, W = (w.alloc (.cells #[.int .i64 ak, .int .i64 an, .string sa] 36)) := ⟨_, rfl⟩
    rw [← hW0] at H0 ⊢
    clear hW0
    go_wp2_with (first | (with_reducible refine listLoad (by kernel_rfl) 36 (.tmp 1) rfl w.heap.size rfl #[.int .i64 ak, .int .i64 an, .string sa] _ H0.out.get0 _ Try.underlying36 (by kernel_rfl) (by kernel_rfl) ?_) | (go_at_call 36; (with_reducible refine (HK.out _).mono ?_); rintro e w3 ⟨rfl, hg3⟩))
    go_ret
    exact says_yes HP.out (by simp) (H0.out.step hg3.below).below
  · have hk : Sp.known a = true := HKI.out.2 hp
    rw [hk] at HK
    have HP := Lib.hid hp
    generalize (a = Sp.nullV) = p at HP ⊢
    clear hk hp HKI
    obtain ⟨ak, an, sa⟩ := a
    dsimp only [valA] at HK ⊢
    go_enter Try.func35, Try.ntmps35
    go_upto_region 1 with fail
    have H0 := Lib.hid (show BxL w.heap.size w [(#[.int .i64 ak, .int .i64 an, .string sa], 36)] (w.alloc (.cells #[.int .i64 ak, .int .i64 an, .string sa] 36)) from ((BxL.nil (Below.refl w.heap.size w)).new (by simp) #[.int .i64 ak, .int .i64 an, .string sa] 36))
    obtain ⟨W0, hW0⟩ : ∃ W, W = (w.alloc (.cells #[.int .i64 ak, .int .i64 an, .string sa] 36)) := ⟨_, rfl⟩
    rw [← hW0] at H0 ⊢
    clear hW0
    go_wp2_with (first | (with_reducible refine listLoad (by kernel_rfl) 36 (.tmp 1) rfl w.heap.size rfl #[.int .i64 ak, .int .i64 an, .string sa] _ H0.out.get0 _ Try.underlying36 (by kernel_rfl) (by kernel_rfl) ?_) | (go_at_call 36; (with_reducible refine (HK.out _).mono ?_); rintro e w3 ⟨rfl, hg3⟩))
    go_ret
    exact says_no HP.out (by simp) (H0.out.step hg3.below).below
set_option maxRecDepth 100000 in
set_option maxHeartbeats 4000000 in
theorem of2_any (a : Sp.Oft) (w : World) : Calls Try.prog 41 #[.agg (oftA a)] w (Says (a.n < 2) w) := by
  obtain ⟨⟨ak, an, sa⟩, ac⟩ := a
  dsimp only [oftA]
  by_cases hp : ac < 2
  · have HP := Lib.hid hp
    go_enter Try.func41, Try.ntmps41
    go_upto_region 1 with fail
    have H0 := Lib.hid (show BxL w.heap.size w [(#[.int .i64 ak, .int .i64 an, .string sa, .int .i64 ac], 48)] (w.alloc (.cells #[.int .i64 ak, .int .i64 an, .string sa, .int .i64 ac] 48)) from ((BxL.nil (Below.refl w.heap.size w)).new (by simp) #[.int .i64 ak, .int .i64 an, .string sa, .int .i64 ac] 48))
    obtain ⟨W0, hW0⟩ : ∃ W, W = (w.alloc (.cells #[.int .i64 ak, .int .i64 an, .string sa, .int .i64 ac] 48)) := ⟨_, rfl⟩
    rw [← hW0] at H0 ⊢
    clear hW0
    have hc0 := blkCell H0.out.get0
    go_wp2_with fail
    go_ret
    exact says_yes HP.out (by simp [*]) H0.out.below
  · have HP := Lib.hid hp
    go_enter Try.func41, Try.ntmps41
    go_upto_region 1 with fail
    have H0 := Lib.hid (show BxL w.heap.size w [(#[.int .i64 ak, .int .i64 an, .string sa, .int .i64 ac], 48)] (w.alloc (.cells #[.int .i64 ak, .int .i64 an, .string sa, .int .i64 ac] 48)) from ((BxL.nil (Below.refl w.heap.size w)).new (by simp) #[.int .i64 ak, .int .i64 an, .string sa, .int .i64 ac] 48))
    obtain ⟨W0, hW0⟩ : ∃ W, W = (w.alloc (.cells #[.int .i64 ak, .int .i64 an, .string sa, .int .i64 ac] 48)) := ⟨_, rfl⟩
    rw [← hW0] at H0 ⊢
    clear hW0
    have hc0 := blkCell H0.out.get0
    go_wp2_with fail
    go_ret
    exact says_no (by show ¬ ac < 2; have := HP.out; omega) (by simp [*]) H0.out.below
end Go.Proofs.Ytmhpbmobfdgkeaa
/- The walks over what may be known: the reference's Right of values, slices.IsSortedFunc. -/
namespace Go.Proofs.Ytmhpbmobfdgkeaa
open Go.RowKit
/-- Do the values rise? -/
def UpL (l : List Sp.Val) : Prop := ∀ i (hi : i + 1 < l.length), Sp.ordV (l[i]'(by omega)) l[i + 1] ≤ 0
set_option maxRecDepth 100000 in
set_option maxHeartbeats 4000000 in
theorem sorted_any (l : List Sp.Val) (hl : l.length ≤ 140737488355328) (A : Option Addr) (c : Nat) (w : World) (hr : Reads w A c l.length (l.flatMap valC)) :
    Calls Try.prog 56 #[.slice A l.length c, .func (.func 13) #[] #[]] w (Says (UpL l) w) := by
  have HR := Lib.hid hr
  have HY := Lib.hid (fun (h : UpL l) w' hb (e : Ending) he => says_yes (w := w) (w' := w') (e := e) h he hb)
  have HN := Lib.hid (fun (h : ¬ UpL l) w' hb (e : Ending) he => says_no (w := w) (w' := w') (e := e) h he hb)
  generalize Says (UpL l) w = Q at HY HN ⊢
  clear hr
  have hw0 : IntKind.i64.wrap ((l.length : Int) - 1) = (l.length : Int) - 1 := IntWalk.i64_in _ (by omega)
  go_enter Try.func56, Try.ntmps56
  go_wp2_with fail
  go_loopw [5] (fun i wr => ∃ k : Int, -1 ≤ k ∧ k + 1 ≤ (l.length : Int) ∧ i = .int .i64 k ∧ (∀ j (hj : j + 1 < l.length), k ≤ (j : Int) → Sp.ordV (l[j]'(by omega)) l[j + 1] ≤ 0) ∧ Below w.heap.size w wr) (fun i _ => (intOf i + 1).toNat)
  case atStart => exact ⟨(l.length : Int) - 1, by omega, by omega, rfl, fun j hj h => by omega, Below.refl _ _⟩
  case round =>
    obtain ⟨k, hk0, hk, rfl, hall, hbw⟩ := hrel
    have HA := Lib.hid hall
    clear hall
    by_cases hlt : 0 < k
    · obtain ⟨n, rfl⟩ : ∃ n : Nat, k = ((n + 1 : Nat) : Int) := ⟨(k - 1).toNat, by omega⟩
      have hn1 : n + 1 < l.length := by omega
      obtain ⟨b, off, rfl, hca, hbl, hcell⟩ := read_at valC_len (HR.out.below hbw) hn1
      obtain ⟨b', off', e', _, _, hcell'⟩ := read_at valC_len (HR.out.below hbw) (show n < l.length by omega)
      injection e' with e'
      injection e' with e1 e2
      subst e1 e2
      have HO := Lib.hid (fun W => order_any l[n + 1] l[n] W)
      have HNO := Lib.hid (show Sp.ordV l[n + 1] l[n] < 0 → ¬ UpL l from fun h h' => by have := h' n hn1; have := Sp.ordV_neg l[n] l[n + 1]; omega)
      have HGO := Lib.hid (show ¬ Sp.ordV l[n + 1] l[n] < 0 → ∀ j (hj : j + 1 < l.length), (n : Int) ≤ (j : Int) → Sp.ordV (l[j]'(by omega)) l[j + 1] ≤ 0 from fun h j hj hjn => by
        by_cases he : j = n
        · subst he; have := Sp.ordV_neg l[j] l[j + 1]; omega
        · exact HA.out j hj (by omega))
      generalize Sp.ordV l[n + 1] l[n] = o at HO HNO HGO
      generalize l[n + 1] = x at hcell HO
      generalize l[n] = y at hcell' HO
      obtain ⟨xk, xn, xs⟩ := x
      obtain ⟨yk, yn, ys⟩ := y
      dsimp only [valA] at HO
      have HX := Lib.hid (show ∀ u, Below wr.heap.size wr u → u.rangeAt b (off + (n + 1) * 3) [.int .i64 xk, .int .i64 xn, .string xs] from fun u hu j v hj => by rw [hu.cell (p := ⟨b, off + (n + 1) * 3 + j, none⟩) hbl]; exact hcell j v hj)
      have HYY := Lib.hid (show ∀ u, Below wr.heap.size wr u → u.rangeAt b (off + n * 3) [.int .i64 yk, .int .i64 yn, .string ys] from fun u hu j v hj => by rw [hu.cell (p := ⟨b, off + n * 3 + j, none⟩) hbl]; exact hcell' j v hj)
      clear hcell hcell' hca HA
      have q0 : (0 : Int) ≤ ((n + 1 : Nat) : Int) := by omega
      have q1 : ((n + 1 : Nat) : Int) < (l.length : Int) := by omega
      have q2 : IntKind.i64.wrap (((n + 1 : Nat) : Int) - 1) = (n : Int) := by rw [show ((n + 1 : Nat) : Int) - 1 = (n : Int) by omega]; exact IntWalk.i64_in _ (by omega)
      have q3 : (0 : Int) ≤ (n : Int) := by omega
      have q4 : (n : Int) < (l.length : Int) := by omega
      have q5 : (n : Int).toNat = n := rfl
      obtain ⟨m, hm⟩ : ∃ m, m = n + 1 := ⟨_, rfl⟩
      rw [← hm] at q0 q1 q2 HX hk hk0 hlt ⊢
      have HM := Lib.hid hm
      clear hm
      go_upto_region 4 with fail
      have hSn : Below wr.heap.size wr wr.drew := (Below.refl _ wr).drew
      refine wp_region_held_drew (S := (fun u => Below wr.heap.size wr u)) (by kernel_rfl) ?_ (fun hHeld => ?_)
      · exact hSn
      generalize wr.drew = w9 at hSn ⊢
      refine tkW 0 (some 13) (v := ?_) rfl ?_ ?_
      rotate_left
      · intro u hSu; clear hSu; go_simp; (try with_reducible rfl)
      try simp only [Act.put, List.setIfInBounds_toArray, List.set_cons_zero, List.set_cons_succ]
      refine tkW 1 (some 14) (v := ?_) rfl ?_ ?_
      rotate_left
      · intro u hSu; clear hSu; go_simp; (try with_reducible rfl)
      try simp only [Act.put, List.setIfInBounds_toArray, List.set_cons_zero, List.set_cons_succ]
      refine tkW 2 (some 15) (v := ?_) rfl ?_ ?_
      rotate_left
      · intro u hSu; clear hSu; go_simp; (try with_reducible rfl)
      try simp only [Act.put, List.setIfInBounds_toArray, List.set_cons_zero, List.set_cons_succ]
      refine tkW 3 (some 16) (v := ?_) rfl ?_ ?_
      rotate_left
      · intro u hSu; clear hSu; go_simp; (try with_reducible rfl)
      try simp only [Act.put, List.setIfInBounds_toArray, List.set_cons_zero, List.set_cons_succ]
      refine tkV 4 (some 17) (v := .agg #[.int .i64 xk, .int .i64 xn, .string xs]) rfl (yieldsIf_load_mid (by rfl) 36 (.tmp 16) rfl b (off + m * 3) (by rfl) [.int .i64 xk, .int .i64 xn, .string xs] _ HX.out Try.underlying36 (by kernel_rfl) (by kernel_rfl)) ?_
      try simp only [Act.put, List.setIfInBounds_toArray, List.set_cons_zero, List.set_cons_succ]
      refine tkW 5 (some 18) (v := ?_) rfl ?_ ?_
      rotate_left
      · intro u hSu; clear hSu; go_simp; (try with_reducible rfl)
      try simp only [Act.put, List.setIfInBounds_toArray, List.set_cons_zero, List.set_cons_succ]
      refine tkW 6 (some 19) (v := ?_) rfl ?_ ?_
      rotate_left
      · intro u hSu; clear hSu; go_simp; (try with_reducible rfl)
      try simp only [Act.put, List.setIfInBounds_toArray, List.set_cons_zero, List.set_cons_succ]
      refine tkW 7 (some 20) (v := ?_) rfl ?_ ?_
      rotate_left
      · intro u hSu; clear hSu; go_simp; (try with_reducible rfl)
      try simp only [Act.put, List.setIfInBounds_toArray, List.set_cons_zero, List.set_cons_succ]
      refine tkW 8 (some 21) (v := ?_) rfl ?_ ?_
      rotate_left
      · intro u hSu; clear hSu; go_simp; (try with_reducible rfl)
      try simp only [Act.put, List.setIfInBounds_toArray, List.set_cons_zero, List.set_cons_succ]
      refine tkV 9 (some 22) (v := .agg #[.int .i64 yk, .int .i64 yn, .string ys]) rfl (yieldsIf_load_mid (by rfl) 36 (.tmp 21) rfl b (off + n * 3) (by rfl) [.int .i64 yk, .int .i64 yn, .string ys] _ HYY.out Try.underlying36 (by kernel_rfl) (by kernel_rfl)) ?_
      try simp only [Act.put, List.setIfInBounds_toArray, List.set_cons_zero, List.set_cons_succ]
      refine rdH 10 (some 23) rfl (fun K hK => ?_)
      go_simp
      (with_reducible refine (HO.out _).mono ?_); rintro e w2 ⟨rfl, hg2⟩; have hSm := joinB hSn hg2.below; clear hSn hg2; have hSn := hSm; clear hSm
      refine hK.out _ _ ?_ (fun hHeld => ?_)
      · exact hSn
      clear hK K
      try simp only [Act.put, List.setIfInBounds_toArray, List.set_cons_zero, List.set_cons_succ]
      refine tkW 11 (some 24) (v := ?_) rfl ?_ ?_
      rotate_left
      · intro u hSu; clear hSu; go_simp; (try with_reducible rfl)
      try simp only [Act.put, List.setIfInBounds_toArray, List.set_cons_zero, List.set_cons_succ]
      refine wpAnyH_done (by kernel_rfl) ?_ _
      clear hHeld HX HYY HO
      by_cases ho : o < 0
      · have HF := Lib.hid (HN.out (HNO.out ho) _ (joinB hbw hSn))
        clear HNO HGO
        go_wp2_with fail
        exact HF.out _ (by simp)
      · have HG := Lib.hid (HGO.out ho)
        clear HNO HGO
        go_wp2_with fail
        go_roundw
        case rel => exact ⟨(n : Int), by omega, by have := HM.out; omega, rfl, HG.out, joinB hbw hSn⟩
        case measure => have := HM.out; simp [intOf]; omega
    · have HF := Lib.hid (HY.out (fun j hj => HA.out j hj (by omega)) _ hbw)
      clear HN HY
      go_wp2_with fail
      exact HF.out _ (by simp)
end Go.Proofs.Ytmhpbmobfdgkeaa
