/- The walk over slices.DeleteFunc at values and at counted values: a row of the call's own. -/
import Derived.Test.YtmhpbmobfdgkeaaHm05
import Derived.OrdersHeld
import Derived.Deep.RegionHeld3
namespace Go.Proofs.Ytmhpbmobfdgkeaa
open Go.RowKit
section
variable {α : Type} (p : α → Bool) (l : List α)
/-- What is kept of the first j. -/
def keepF (j : Nat) : List α := (l.take j).filter (fun x => !p x)
def keepM (j : Nat) : List α := keepF p l j ++ l.drop (keepF p l j).length
theorem keepF_len (j : Nat) : (keepF p l j).length ≤ j := Nat.le_trans (List.length_filter_le _ _) (by rw [List.length_take]; omega)
variable {p l}
theorem keepM_len {j : Nat} (hj : j ≤ l.length) : (keepM p l j).length = l.length := by
  have := keepF_len p l j
  unfold keepM
  rw [List.length_append, List.length_drop]; omega
theorem keepM_at {j : Nat} (hj : j < l.length) : (keepM p l j)[j]'(by rw [keepM_len (by omega)]; exact hj) = l[j] := by
  have := keepF_len p l j
  simp only [keepM]
  rw [List.getElem_append_right (by omega), List.getElem_drop]
  congr 1
  omega
theorem keep_yes {j : Nat} (hj : j < l.length) (h : p l[j] = true) : keepF p l (j + 1) = keepF p l j := by
  unfold keepF
  rw [Sp.take_snoc l j hj, List.filter_append]
  simp [h]
theorem keep_no {j : Nat} (hj : j < l.length) (h : p l[j] = false) : keepF p l (j + 1) = keepF p l j ++ [l[j]] := by
  unfold keepF
  rw [Sp.take_snoc l j hj, List.filter_append]
  simp [h]
theorem keepM_yes {j : Nat} (hj : j < l.length) (h : p l[j] = true) : keepM p l (j + 1) = keepM p l j := by unfold keepM; rw [keep_yes hj h]
theorem keepM_no {j : Nat} (hj : j < l.length) (h : p l[j] = false) : keepM p l (j + 1) = (keepM p l j).set (keepF p l j).length l[j] := by
  have hl := keepF_len p l j
  unfold keepM
  rw [keep_no hj h, List.set_append_right _ _ (Nat.le_refl _), Nat.sub_self, List.length_append, List.append_assoc]
  congr 1
  obtain ⟨a, r, hr⟩ : ∃ a r, l.drop (keepF p l j).length = a :: r := by
    cases hd : l.drop (keepF p l j).length with
    | nil => have := congrArg List.length hd; rw [List.length_drop] at this; simp at this; omega
    | cons a r => exact ⟨a, r, rfl⟩
  rw [hr, List.set_cons_zero, ← List.drop_drop, hr]
  rfl
theorem keep_all : keepF p l l.length = l.filter (fun x => !p x) := by unfold keepF; rw [List.take_length]
theorem keep_first {i : Nat} (hi : i < l.length) (h : p l[i] = true) (hb : ∀ j (hj : j < i), p (l[j]'(by omega)) = false) : keepF p l (i + 1) = l.take i ∧ keepM p l (i + 1) = l := by
  have e : keepF p l i = l.take i := by
    unfold keepF
    exact List.filter_eq_self.2 (fun x hx => by
      obtain ⟨j, hj, rfl⟩ := List.getElem_of_mem hx
      rw [List.length_take] at hj
      rw [List.getElem_take, hb j (by omega)]
      rfl)
  have e2 : keepF p l (i + 1) = l.take i := (keep_yes hi h).trans e
  refine ⟨e2, ?_⟩
  unfold keepM
  rw [e2, List.length_take, Nat.min_eq_left (by omega), List.take_append_drop]
end
theorem own_range {α : Type} {enc : α → List Value} {k : Nat} {e : TypeId} {B g c : Nat} {w : World} {l : List α} (hk : ∀ x, (enc x).length = k) (ho : OwnL enc k e B w (.slice (some ⟨g, 0, none⟩) l.length c) l) (j : Nat) (hj : j < l.length) : w.rangeAt g (j * k) (enc l[j]) := by
  obtain ⟨cur, hB, hg, hh, hn, hc, hs, ht⟩ := own_blk ho
  intro i v hi
  have hik : i < k := by have := (List.getElem?_eq_some_iff.1 hi).1; rw [hk] at this; exact this
  have hle : j * k + k ≤ l.length * k := by have := Nat.mul_le_mul_right k (show j + 1 ≤ l.length from hj); rwa [Nat.add_mul, Nat.one_mul] at this
  rw [blkCell hh, ht _ (by omega), flat_at hk l j i hj hik]
  exact hi
/-- Cells of n that are nothing. -/
def zerV (n : Nat) : List Value := (Builtin.zeroCells (Value.cells (.agg #[.int .i64 0, .int .i64 0, .string ⟨#[]⟩])) n).toList
theorem zerV_len (n : Nat) : (zerV n).length = n * 3 := by simp [zerV, Builtin.zeroCells, Value.cells]
theorem clearV_run (w : World) (b o n c : Nat) (hn : 0 < n) (hc : ∀ j, j < n * 3 → (w.cell? ⟨b, o + j, none⟩).isSome = true) (hf : ∀ j, j < n * 3 → w.frozen? ⟨b, o + j, none⟩ = false) (ty : TypeId) :
    (Builtin.clear_ #[32] ty #[.slice (some ⟨b, o, none⟩) n c]).run Try.prog w = .ok (.tuple #[]) (w.setCells b o (zerV n)) := by
  have hv : ∀ w, (zeroValue 36).run Try.prog w = .ok (.agg #[.int .i64 0, .int .i64 0, .string ⟨#[]⟩]) w := Try.zeroValue36
  have hst := run_storeCells_cells (P := Try.prog) b o (zerV n) 0 w (by rw [zerV_len]; simpa using hc) (by rw [zerV_len]; simpa using hf) (by
    intro v hv'
    simp [zerV, Builtin.zeroCells, Value.cells] at hv'
    obtain ⟨i, _, rfl⟩ := hv'
    have hi4 : i % 3 < 3 := Nat.mod_lt _ (by omega)
    generalize i % 3 = q at hi4
    rcases q with _ | _ | _ | q
    · rfl
    · rfl
    · rfl
    · omega)
  simp only [Nat.add_zero] at hst
  unfold zerV at hst ⊢
  obtain ⟨m, rfl⟩ : ∃ m, n = m + 1 := ⟨n - 1, by omega⟩
  simp [Builtin.clear_, run_underlying Try.underlying32, hv, hst]
set_option maxRecDepth 100000 in
set_option maxHeartbeats 4000000 in
theorem deleteV_any (p : Sp.Val → Bool) (cl : Nat) (cb : Array Value) (eg : ∀ args w, (callFunc cl args).run Try.prog w = .ok (.enter cl args) w) (l : List Sp.Val) (hl : l.length ≤ 1000000) (B : Nat) (v : Value) (w : World) (ho : OwnL valC 3 36 B w v l) (hB : B ≤ w.heap.size)
    (hc : ∀ x ∈ l, ∀ W, Calls Try.prog cl (#[.agg (valA x)] ++ cb) W (Says (p x = true) W)) :
    Calls Try.prog 33 #[v, .func (.func cl) #[] cb] w fun e w' => ∃ u, e = .returned u ∧ OwnL valC 3 36 B w' u (l.filter (fun x => !p x)) ∧ Below B w w' := by
  obtain ⟨A, c, rfl, hr⟩ := OwnL.form ho
  have HIX := Lib.hid (indexV_any (fun x => p x = true) cl cb eg l (by omega) A c w hr (fun x hx W _ => hc x hx W))
  have HC := Lib.hid hc
  clear hr hc
  by_cases hx : ∃ x ∈ l, p x = true
  rotate_left
  · have HF := Lib.hid (show l.filter (fun x => !p x) = l from List.filter_eq_self.2 (fun x h => by
      cases hp : p x with
      | true => exact absurd ⟨x, h, hp⟩ hx
      | false => rfl))
    have HX := Lib.hid hx
    have HO := Lib.hid ho
    have HBB := Lib.hid hB
    clear hx ho hB
    go_enter Try.func33, Try.ntmps33
    go_wp2_with (go_at_call 63; (with_reducible refine HIX.out.mono ?_); rintro e w2 ⟨q, rfl, hq, hb2⟩; obtain rfl : q = -1 := (by rcases hq with ⟨h, _⟩ | ⟨i, hi, _, hp, _⟩; (· exact h); (· exact absurd ⟨_, List.getElem_mem hi, hp⟩ HX.out)); clear hq)
    go_ret
    exact ⟨_, rfl, by rw [HF.out]; exact ownBelow HO.out hb2, hb2.mono HBB.out⟩
  · have HX := Lib.hid hx
    obtain ⟨g, rfl, hgB⟩ : ∃ g, A = some ⟨g, 0, none⟩ ∧ B ≤ g := by
      rcases ho.2 with ⟨h, h0⟩ | ⟨g, cap, cur, hv, hg, _⟩
      · obtain ⟨x, hx, _⟩ := hx
        rw [List.eq_nil_of_length_eq_zero h0] at hx
        cases hx
      · injection hv with h1 h2 h3
        exact ⟨g, h1, hg⟩
    have hlc : l.length ≤ c ∧ c ≤ maxLen := by obtain ⟨_, _, _, _, h1, h2, _⟩ := own_blk ho; exact ⟨h1, h2⟩
    have HLC := Lib.hid hlc
    have HO1 := Lib.hid ho
    have HBB := Lib.hid hB
    clear hx ho hB hlc
    go_enter Try.func33, Try.ntmps33
    go_upto_region 2 with (go_at_call 63; (with_reducible refine HIX.out.mono ?_); rintro e w2 ⟨q, rfl, hq, hb2⟩)
    obtain ⟨i, hi, rfl, h1, h2⟩ : ∃ (i : Nat) (h : i < l.length), q = (i : Int) ∧ p l[i] = true ∧ ∀ (j : Nat) (hj : j < i), p (l[j]'(by omega)) = false := by
      rcases hq with ⟨_, h⟩ | ⟨i, hi, h3, h4, h5⟩
      · obtain ⟨x, hx, hp⟩ := HX.out
        exact absurd hp (h x hx)
      · exact ⟨i, hi, h3, h4, fun j hj => by simpa using h5 j hj⟩
    obtain ⟨hk1, hk2⟩ := keep_first hi h1 h2
    have HK1 := Lib.hid hk1
    have HK2 := Lib.hid hk2
    have HO2 := Lib.hid (ownBelow HO1.out hb2)
    have HB2 := Lib.hid (hb2.mono HBB.out)
    have HL2 := Lib.hid hb2.size
    have hi1 : IntKind.i64.wrap ((i : Int) + 1) = (i : Int) + 1 := IntWalk.i64_in _ (by omega)
    have hi2 : ((i : Int) == -1) = false := beq_eq_false_iff_ne.2 (by omega)
    have hi3 : ¬ (i : Int) = -1 := by omega
    clear hq HX HIX h1 h2 hk1 hk2 HO1 hb2
    go_wp2_with fail
    clear hi1 hi2 hi3
    go_loopw [5, 6] (fun s t wr => ∃ j : Nat, j ≤ l.length ∧ t = .int .i64 j ∧ s = .int .i64 ((keepF p l j).length : Int) ∧ (keepF p l j).length < j ∧ OwnL valC 3 36 B wr (.slice (some ⟨g, 0, none⟩) (keepM p l j).length c) (keepM p l j) ∧ Below B w wr) (fun _ t _ => l.length - (intOf t).toNat)
    case atStart => exact ⟨i + 1, by omega, by go_num, by rw [HK1.out, List.length_take, Nat.min_eq_left (by omega)], by rw [HK1.out, List.length_take]; omega, by rw [HK2.out]; exact HO2.out, HB2.out⟩
    case round =>
      clear HK1 HK2 HO2 HB2
      obtain ⟨j, hj, rfl, rfl, hm, ho, hbw⟩ := hrel
      have HO := Lib.hid ho
      have HBW := Lib.hid hbw
      clear ho hbw
      have hj0 : (0 : Int) ≤ (j : Int) := by omega
      by_cases hlt : j < l.length
      · have hji : (j : Int) < (l.length : Int) := by omega
        have hwj : IntKind.i64.wrap ((j : Int) + 1) = (j : Int) + 1 := IntWalk.i64_in _ (by omega)
        have hrg := own_range valC_len HO.out j (by rw [keepM_len hj]; exact hlt)
        rw [keepM_at hlt] at hrg
        have HPUT := Lib.hid (fun w3 h3 => own_put (w := w3) (e := 36) (B := B) (g := g) (c := c) valC_len h3 (keepF p l j).length (show (keepF p l j).length < (keepM p l j).length from by rw [keepM_len hj]; omega) l[j])
        have HYES := Lib.hid (fun h => And.intro (keep_yes (p := p) hlt h) (keepM_yes (p := p) hlt h))
        have HNO := Lib.hid (fun h => And.intro (keep_no (p := p) hlt h) (keepM_no (p := p) hlt h))
        have HCX := Lib.hid (HC.out l[j] (List.getElem_mem hlt))
        have HLE := Lib.hid (show B ≤ wr.heap.size from by obtain ⟨_, _, hg3, _⟩ := own_blk HO.out; omega)
        obtain ⟨m, hme⟩ : ∃ m, m = (keepF p l j).length := ⟨_, rfl⟩
        rw [← hme] at hm HPUT ⊢
        have HME := Lib.hid hme
        obtain ⟨x, hxe⟩ : ∃ x, x = l[j] := ⟨_, rfl⟩
        rw [← hxe] at hrg HPUT HYES HNO HCX
        clear hxe hme
        obtain ⟨ak, an, sa⟩ := x
        dsimp only [valA] at HCX
        have HRG := Lib.hid (show wr.rangeAt g (j * 3) [.int .i64 ak, .int .i64 an, .string sa] from hrg)
        have HOB := Lib.hid (heap_alloc_new wr (.cells #[.int .i64 ak, .int .i64 an, .string sa] 36))
        have HBA := Lib.hid (allocB wr (.cells #[.int .i64 ak, .int .i64 an, .string sa] 36))
        clear hrg
        have hm0 : (0 : Int) ≤ (m : Int) := by omega
        have hml : (m : Int) < (l.length : Int) := by omega
        have hwm : IntKind.i64.wrap ((m : Int) + 1) = (m : Int) + 1 := IntWalk.i64_in _ (by omega)
        by_cases hp : p ⟨ak, an, sa⟩ = true
        · have HP := Lib.hid hp
          have HE := Lib.hid (HYES.out hp)
          clear hp HYES HNO
          go_wp2_with (first
          | (with_reducible refine wpList_load_mid rfl 36 (.tmp 24) rfl g (j * 3) rfl [.int .i64 ak, .int .i64 an, .string sa] _ HRG.out Try.underlying36 (by kernel_rfl) (by kernel_rfl) ?_)
          | (with_reducible refine wpList_store_new rfl 36 (.tmp 7) (.tmp 25) rfl #[.int .i64 ak, .int .i64 an, .string sa] _ _ rfl (by kernel_rfl) (by kernel_rfl) (by kernel_rfl) (by kernel_rfl) ?_)
          | (with_reducible refine listLoad (by kernel_rfl) 36 (.tmp 7) rfl wr.heap.size rfl #[.int .i64 ak, .int .i64 an, .string sa] _ HOB.out _ Try.underlying36 (by kernel_rfl) (by kernel_rfl) ?_)
          | (go_at_fn cl; (with_reducible refine (HCX.out _).mono ?_); rintro e w3 ⟨q, rfl, hq, hb3⟩; obtain rfl : q = true := hq.2 HP.out; clear hq; have HB3 := Lib.hid (joinB HBA.out hb3); have HOB3 := Lib.hid (blkOld HOB.out hb3); have HO3 := Lib.hid (ownBelow HO.out HB3.out); have HTH := Lib.hid (show w3.there g (m * 3) (#[.int .i64 ak, .int .i64 an, .string sa] : Array Value).size from (HPUT.out w3 HO3.out).1))
          | (with_reducible refine listLoad (by kernel_rfl) 36 (.tmp 7) rfl wr.heap.size rfl #[.int .i64 ak, .int .i64 an, .string sa] _ HOB3.out _ Try.underlying36 (by kernel_rfl) (by kernel_rfl) ?_)
          | (with_reducible refine wpList_store_mid rfl 36 (.tmp 33) (.tmp 32) rfl g (m * 3) #[.int .i64 ak, .int .i64 an, .string sa] rfl rfl HTH.out (by kernel_rfl) (by kernel_rfl) ?_))
          go_roundw
          case rel => exact ⟨j + 1, by omega, by go_num, by rw [HE.out.1, ← HME.out], by rw [HE.out.1, ← HME.out]; omega, by rw [HE.out.2]; exact HO3.out, HBW.out.trans (HB3.out.mono HLE.out)⟩
          case measure => simp [intOf]; omega
        · have HP := Lib.hid hp
          have HE := Lib.hid (HNO.out (by simpa using hp))
          clear hp HYES HNO
          go_wp2_with (first
          | (with_reducible refine wpList_load_mid rfl 36 (.tmp 24) rfl g (j * 3) rfl [.int .i64 ak, .int .i64 an, .string sa] _ HRG.out Try.underlying36 (by kernel_rfl) (by kernel_rfl) ?_)
          | (with_reducible refine wpList_store_new rfl 36 (.tmp 7) (.tmp 25) rfl #[.int .i64 ak, .int .i64 an, .string sa] _ _ rfl (by kernel_rfl) (by kernel_rfl) (by kernel_rfl) (by kernel_rfl) ?_)
          | (with_reducible refine listLoad (by kernel_rfl) 36 (.tmp 7) rfl wr.heap.size rfl #[.int .i64 ak, .int .i64 an, .string sa] _ HOB.out _ Try.underlying36 (by kernel_rfl) (by kernel_rfl) ?_)
          | (go_at_fn cl; (with_reducible refine (HCX.out _).mono ?_); rintro e w3 ⟨q, rfl, hq, hb3⟩; obtain rfl : q = false := (by cases q with | true => exact absurd (hq.1 rfl) HP.out | false => rfl); clear hq; have HB3 := Lib.hid (joinB HBA.out hb3); have HOB3 := Lib.hid (blkOld HOB.out hb3); have HO3 := Lib.hid (ownBelow HO.out HB3.out); have HTH := Lib.hid (show w3.there g (m * 3) (#[.int .i64 ak, .int .i64 an, .string sa] : Array Value).size from (HPUT.out w3 HO3.out).1))
          | (with_reducible refine listLoad (by kernel_rfl) 36 (.tmp 7) rfl wr.heap.size rfl #[.int .i64 ak, .int .i64 an, .string sa] _ HOB3.out _ Try.underlying36 (by kernel_rfl) (by kernel_rfl) ?_)
          | (with_reducible refine wpList_store_mid rfl 36 (.tmp 33) (.tmp 32) rfl g (m * 3) #[.int .i64 ak, .int .i64 an, .string sa] rfl rfl HTH.out (by kernel_rfl) (by kernel_rfl) ?_))
          go_roundw
          case rel =>
            have hpu := HPUT.out w3 HO3.out
            rw [← HME.out] at HE
            exact ⟨j + 1, by omega, by go_num, by rw [HE.out.1, List.length_append, ← HME.out]; go_num, by rw [HE.out.1, List.length_append, ← HME.out]; simp; omega, by rw [HE.out.2]; exact hpu.2.1, (HBW.out.trans (HB3.out.mono HLE.out)).trans hpu.2.2⟩
          case measure => simp [intOf]; omega
      · obtain rfl : j = l.length := by omega
        rw [keep_all] at hm ⊢
        have HM := Lib.hid (show keepM p l l.length = l.filter (fun x => !p x) ++ l.drop (l.filter (fun x => !p x)).length from by unfold keepM; rw [keep_all])
        obtain ⟨fl, hfl⟩ : ∃ fl, fl = l.filter (fun x => !p x) := ⟨_, rfl⟩
        rw [← hfl] at hm HM ⊢
        have HFL := Lib.hid hfl
        clear hfl
        obtain ⟨cur, hB', hg', hh, hn, hcm, hs, ht⟩ := own_blk HO.out
        have HHH := Lib.hid hh
        have HT := Lib.hid ht
        rw [keepM_len (Nat.le_refl _)] at hn
        obtain ⟨m, hme⟩ : ∃ m, m = fl.length := ⟨_, rfl⟩
        have HME := Lib.hid hme
        rw [← hme] at hm ⊢
        obtain ⟨n, hne⟩ : ∃ n, n = l.length := ⟨_, rfl⟩
        have HNE := Lib.hid hne
        rw [← hne] at hm hn hlt hj hj0 ⊢
        have hcl := fun ty => clearV_run wr g (m * 3) (n - m) (c - m) (by omega) (fun t ht => by rw [blkCell HHH.out, Array.getElem?_eq_getElem (by omega)]; rfl) (fun t ht => blkFrozen HHH.out _) ty
        have hm0 : (0 : Int) ≤ (m : Int) := by omega
        have hmc : (m : Int) ≤ (n : Int) := by omega
        have hmcc : (m : Int) ≤ (c : Int) := by omega
        have hncI : (n : Int) ≤ (c : Int) := by omega
        have hmn2 : ¬ c = m := by omega
        have hjj : ¬ (n : Int) < (n : Int) := by omega
        clear hh ht hme hne hlt hg' hB'
        go_wp2_with fail
        go_ret
        obtain ⟨cur2, q1, q2, q3⟩ := setCells_blk (zerV (n - m)) (m * 3) cur wr HHH.out
        refine ⟨_, rfl, ?_, HBW.out.trans (setCells_below hgB _ _ _)⟩
        have hlen : (keepM p l l.length).length = n := by rw [keepM_len (Nat.le_refl _), HNE.out]
        rw [← HFL.out]
        have hme := HME.out
        subst hme
        refine own_mk valC_len hgB q1 (by omega) hcm (by rw [q2]; exact hs) (fun t h => ?_)
        have h3 : fl.length * 3 ≤ n * 3 := Nat.mul_le_mul_right _ (by omega)
        rw [q3, if_neg (by omega), HT.out t (by rw [hlen]; omega), HM.out, List.flatMap_append, List.getElem?_append_left (by rw [flat_len valC_len]; exact h)]
/-- Cells of n that are nothing. -/
def zerO (n : Nat) : List Value := (Builtin.zeroCells (Value.cells (.agg #[.int .i64 0, .int .i64 0, .string ⟨#[]⟩, .int .i64 0])) n).toList
theorem zerO_len (n : Nat) : (zerO n).length = n * 4 := by simp [zerO, Builtin.zeroCells, Value.cells]
theorem clearO_run (w : World) (b o n c : Nat) (hn : 0 < n) (hc : ∀ j, j < n * 4 → (w.cell? ⟨b, o + j, none⟩).isSome = true) (hf : ∀ j, j < n * 4 → w.frozen? ⟨b, o + j, none⟩ = false) (ty : TypeId) :
    (Builtin.clear_ #[37] ty #[.slice (some ⟨b, o, none⟩) n c]).run Try.prog w = .ok (.tuple #[]) (w.setCells b o (zerO n)) := by
  have hv : ∀ w, (zeroValue 48).run Try.prog w = .ok (.agg #[.int .i64 0, .int .i64 0, .string ⟨#[]⟩, .int .i64 0]) w := Try.zeroValue48
  have hst := run_storeCells_cells (P := Try.prog) b o (zerO n) 0 w (by rw [zerO_len]; simpa using hc) (by rw [zerO_len]; simpa using hf) (by
    intro v hv'
    simp [zerO, Builtin.zeroCells, Value.cells] at hv'
    obtain ⟨i, _, rfl⟩ := hv'
    have hi4 : i % 4 < 4 := Nat.mod_lt _ (by omega)
    generalize i % 4 = q at hi4
    rcases q with _ | _ | _ | _ | q
    · rfl
    · rfl
    · rfl
    · rfl
    · omega)
  simp only [Nat.add_zero] at hst
  unfold zerO at hst ⊢
  obtain ⟨m, rfl⟩ : ∃ m, n = m + 1 := ⟨n - 1, by omega⟩
  simp [Builtin.clear_, run_underlying Try.underlying37, hv, hst]
set_option maxRecDepth 100000 in
set_option maxHeartbeats 4000000 in
theorem deleteO_any (p : Sp.Oft → Bool) (cl : Nat) (cb : Array Value) (eg : ∀ args w, (callFunc cl args).run Try.prog w = .ok (.enter cl args) w) (l : List Sp.Oft) (hl : l.length ≤ 1000000) (B : Nat) (v : Value) (w : World) (ho : OwnL oftC 4 48 B w v l) (hB : B ≤ w.heap.size)
    (hc : ∀ x ∈ l, ∀ W, Calls Try.prog cl (#[.agg (oftA x)] ++ cb) W (Says (p x = true) W)) :
    Calls Try.prog 39 #[v, .func (.func cl) #[] cb] w fun e w' => ∃ u, e = .returned u ∧ OwnL oftC 4 48 B w' u (l.filter (fun x => !p x)) ∧ Below B w w' := by
  obtain ⟨A, c, rfl, hr⟩ := OwnL.form ho
  have HIX := Lib.hid (indexO_any (fun x => p x = true) cl cb eg l (by omega) A c w hr (fun x hx W _ => hc x hx W))
  have HC := Lib.hid hc
  clear hr hc
  by_cases hx : ∃ x ∈ l, p x = true
  rotate_left
  · have HF := Lib.hid (show l.filter (fun x => !p x) = l from List.filter_eq_self.2 (fun x h => by
      cases hp : p x with
      | true => exact absurd ⟨x, h, hp⟩ hx
      | false => rfl))
    have HX := Lib.hid hx
    have HO := Lib.hid ho
    have HBB := Lib.hid hB
    clear hx ho hB
    go_enter Try.func39, Try.ntmps39
    go_wp2_with (go_at_call 66; (with_reducible refine HIX.out.mono ?_); rintro e w2 ⟨q, rfl, hq, hb2⟩; obtain rfl : q = -1 := (by rcases hq with ⟨h, _⟩ | ⟨i, hi, _, hp, _⟩; (· exact h); (· exact absurd ⟨_, List.getElem_mem hi, hp⟩ HX.out)); clear hq)
    go_ret
    exact ⟨_, rfl, by rw [HF.out]; exact ownBelow HO.out hb2, hb2.mono HBB.out⟩
  · have HX := Lib.hid hx
    obtain ⟨g, rfl, hgB⟩ : ∃ g, A = some ⟨g, 0, none⟩ ∧ B ≤ g := by
      rcases ho.2 with ⟨h, h0⟩ | ⟨g, cap, cur, hv, hg, _⟩
      · obtain ⟨x, hx, _⟩ := hx
        rw [List.eq_nil_of_length_eq_zero h0] at hx
        cases hx
      · injection hv with h1 h2 h3
        exact ⟨g, h1, hg⟩
    have hlc : l.length ≤ c ∧ c ≤ maxLen := by obtain ⟨_, _, _, _, h1, h2, _⟩ := own_blk ho; exact ⟨h1, h2⟩
    have HLC := Lib.hid hlc
    have HO1 := Lib.hid ho
    have HBB := Lib.hid hB
    clear hx ho hB hlc
    go_enter Try.func39, Try.ntmps39
    go_upto_region 2 with (go_at_call 66; (with_reducible refine HIX.out.mono ?_); rintro e w2 ⟨q, rfl, hq, hb2⟩)
    obtain ⟨i, hi, rfl, h1, h2⟩ : ∃ (i : Nat) (h : i < l.length), q = (i : Int) ∧ p l[i] = true ∧ ∀ (j : Nat) (hj : j < i), p (l[j]'(by omega)) = false := by
      rcases hq with ⟨_, h⟩ | ⟨i, hi, h3, h4, h5⟩
      · obtain ⟨x, hx, hp⟩ := HX.out
        exact absurd hp (h x hx)
      · exact ⟨i, hi, h3, h4, fun j hj => by simpa using h5 j hj⟩
    obtain ⟨hk1, hk2⟩ := keep_first hi h1 h2
    have HK1 := Lib.hid hk1
    have HK2 := Lib.hid hk2
    have HO2 := Lib.hid (ownBelow HO1.out hb2)
    have HB2 := Lib.hid (hb2.mono HBB.out)
    have HL2 := Lib.hid hb2.size
    have hi1 : IntKind.i64.wrap ((i : Int) + 1) = (i : Int) + 1 := IntWalk.i64_in _ (by omega)
    have hi2 : ((i : Int) == -1) = false := beq_eq_false_iff_ne.2 (by omega)
    have hi3 : ¬ (i : Int) = -1 := by omega
    clear hq HX HIX h1 h2 hk1 hk2 HO1 hb2
    go_wp2_with fail
    clear hi1 hi2 hi3
    go_loopw [5, 6] (fun s t wr => ∃ j : Nat, j ≤ l.length ∧ t = .int .i64 j ∧ s = .int .i64 ((keepF p l j).length : Int) ∧ (keepF p l j).length < j ∧ OwnL oftC 4 48 B wr (.slice (some ⟨g, 0, none⟩) (keepM p l j).length c) (keepM p l j) ∧ Below B w wr) (fun _ t _ => l.length - (intOf t).toNat)
    case atStart => exact ⟨i + 1, by omega, by go_num, by rw [HK1.out, List.length_take, Nat.min_eq_left (by omega)], by rw [HK1.out, List.length_take]; omega, by rw [HK2.out]; exact HO2.out, HB2.out⟩
    case round =>
      clear HK1 HK2 HO2 HB2
      obtain ⟨j, hj, rfl, rfl, hm, ho, hbw⟩ := hrel
      have HO := Lib.hid ho
      have HBW := Lib.hid hbw
      clear ho hbw
      have hj0 : (0 : Int) ≤ (j : Int) := by omega
      by_cases hlt : j < l.length
      · have hji : (j : Int) < (l.length : Int) := by omega
        have hwj : IntKind.i64.wrap ((j : Int) + 1) = (j : Int) + 1 := IntWalk.i64_in _ (by omega)
        have hrg := own_range oftC_len HO.out j (by rw [keepM_len hj]; exact hlt)
        rw [keepM_at hlt] at hrg
        have HPUT := Lib.hid (fun w3 h3 => own_put (w := w3) (e := 48) (B := B) (g := g) (c := c) oftC_len h3 (keepF p l j).length (show (keepF p l j).length < (keepM p l j).length from by rw [keepM_len hj]; omega) l[j])
        have HYES := Lib.hid (fun h => And.intro (keep_yes (p := p) hlt h) (keepM_yes (p := p) hlt h))
        have HNO := Lib.hid (fun h => And.intro (keep_no (p := p) hlt h) (keepM_no (p := p) hlt h))
        have HCX := Lib.hid (HC.out l[j] (List.getElem_mem hlt))
        have HLE := Lib.hid (show B ≤ wr.heap.size from by obtain ⟨_, _, hg3, _⟩ := own_blk HO.out; omega)
        obtain ⟨m, hme⟩ : ∃ m, m = (keepF p l j).length := ⟨_, rfl⟩
        rw [← hme] at hm HPUT ⊢
        have HME := Lib.hid hme
        obtain ⟨x, hxe⟩ : ∃ x, x = l[j] := ⟨_, rfl⟩
        rw [← hxe] at hrg HPUT HYES HNO HCX
        clear hxe hme
        obtain ⟨⟨ak, an, sa⟩, ac⟩ := x
        dsimp only [oftA] at HCX
        have HRG := Lib.hid (show wr.rangeAt g (j * 4) [.int .i64 ak, .int .i64 an, .string sa, .int .i64 ac] from hrg)
        have HOB := Lib.hid (heap_alloc_new wr (.cells #[.int .i64 ak, .int .i64 an, .string sa, .int .i64 ac] 48))
        have HBA := Lib.hid (allocB wr (.cells #[.int .i64 ak, .int .i64 an, .string sa, .int .i64 ac] 48))
        clear hrg
        have hm0 : (0 : Int) ≤ (m : Int) := by omega
        have hml : (m : Int) < (l.length : Int) := by omega
        have hwm : IntKind.i64.wrap ((m : Int) + 1) = (m : Int) + 1 := IntWalk.i64_in _ (by omega)
        by_cases hp : p ⟨⟨ak, an, sa⟩, ac⟩ = true
        · have HP := Lib.hid hp
          have HE := Lib.hid (HYES.out hp)
          clear hp HYES HNO
          go_wp2_with (first
          | (with_reducible refine wpList_load_mid rfl 48 (.tmp 24) rfl g (j * 4) rfl [.int .i64 ak, .int .i64 an, .string sa, .int .i64 ac] _ HRG.out Try.underlying48 (by kernel_rfl) (by kernel_rfl) ?_)
          | (with_reducible refine wpList_store_new rfl 48 (.tmp 7) (.tmp 25) rfl #[.int .i64 ak, .int .i64 an, .string sa, .int .i64 ac] _ _ rfl (by kernel_rfl) (by kernel_rfl) (by kernel_rfl) (by kernel_rfl) ?_)
          | (with_reducible refine listLoad (by kernel_rfl) 48 (.tmp 7) rfl wr.heap.size rfl #[.int .i64 ak, .int .i64 an, .string sa, .int .i64 ac] _ HOB.out _ Try.underlying48 (by kernel_rfl) (by kernel_rfl) ?_)
          | (go_at_fn cl; (with_reducible refine (HCX.out _).mono ?_); rintro e w3 ⟨q, rfl, hq, hb3⟩; obtain rfl : q = true := hq.2 HP.out; clear hq; have HB3 := Lib.hid (joinB HBA.out hb3); have HOB3 := Lib.hid (blkOld HOB.out hb3); have HO3 := Lib.hid (ownBelow HO.out HB3.out); have HTH := Lib.hid (show w3.there g (m * 4) (#[.int .i64 ak, .int .i64 an, .string sa, .int .i64 ac] : Array Value).size from (HPUT.out w3 HO3.out).1))
          | (with_reducible refine listLoad (by kernel_rfl) 48 (.tmp 7) rfl wr.heap.size rfl #[.int .i64 ak, .int .i64 an, .string sa, .int .i64 ac] _ HOB3.out _ Try.underlying48 (by kernel_rfl) (by kernel_rfl) ?_)
          | (with_reducible refine wpList_store_mid rfl 48 (.tmp 33) (.tmp 32) rfl g (m * 4) #[.int .i64 ak, .int .i64 an, .string sa, .int .i64 ac] rfl rfl HTH.out (by kernel_rfl) (by kernel_rfl) ?_))
          go_roundw
          case rel => exact ⟨j + 1, by omega, by go_num, by rw [HE.out.1, ← HME.out], by rw [HE.out.1, ← HME.out]; omega, by rw [HE.out.2]; exact HO3.out, HBW.out.trans (HB3.out.mono HLE.out)⟩
          case measure => simp [intOf]; omega
        · have HP := Lib.hid hp
          have HE := Lib.hid (HNO.out (by simpa using hp))
          clear hp HYES HNO
          go_wp2_with (first
          | (with_reducible refine wpList_load_mid rfl 48 (.tmp 24) rfl g (j * 4) rfl [.int .i64 ak, .int .i64 an, .string sa, .int .i64 ac] _ HRG.out Try.underlying48 (by kernel_rfl) (by kernel_rfl) ?_)
          | (with_reducible refine wpList_store_new rfl 48 (.tmp 7) (.tmp 25) rfl #[.int .i64 ak, .int .i64 an, .string sa, .int .i64 ac] _ _ rfl (by kernel_rfl) (by kernel_rfl) (by kernel_rfl) (by kernel_rfl) ?_)
          | (with_reducible refine listLoad (by kernel_rfl) 48 (.tmp 7) rfl wr.heap.size rfl #[.int .i64 ak, .int .i64 an, .string sa, .int .i64 ac] _ HOB.out _ Try.underlying48 (by kernel_rfl) (by kernel_rfl) ?_)
          | (go_at_fn cl; (with_reducible refine (HCX.out _).mono ?_); rintro e w3 ⟨q, rfl, hq, hb3⟩; obtain rfl : q = false := (by cases q with | true => exact absurd (hq.1 rfl) HP.out | false => rfl); clear hq; have HB3 := Lib.hid (joinB HBA.out hb3); have HOB3 := Lib.hid (blkOld HOB.out hb3); have HO3 := Lib.hid (ownBelow HO.out HB3.out); have HTH := Lib.hid (show w3.there g (m * 4) (#[.int .i64 ak, .int .i64 an, .string sa, .int .i64 ac] : Array Value).size from (HPUT.out w3 HO3.out).1))
          | (with_reducible refine listLoad (by kernel_rfl) 48 (.tmp 7) rfl wr.heap.size rfl #[.int .i64 ak, .int .i64 an, .string sa, .int .i64 ac] _ HOB3.out _ Try.underlying48 (by kernel_rfl) (by kernel_rfl) ?_)
          | (with_reducible refine wpList_store_mid rfl 48 (.tmp 33) (.tmp 32) rfl g (m * 4) #[.int .i64 ak, .int .i64 an, .string sa, .int .i64 ac] rfl rfl HTH.out (by kernel_rfl) (by kernel_rfl) ?_))
          go_roundw
          case rel =>
            have hpu := HPUT.out w3 HO3.out
            rw [← HME.out] at HE
            exact ⟨j + 1, by omega, by go_num, by rw [HE.out.1, List.length_append, ← HME.out]; go_num, by rw [HE.out.1, List.length_append, ← HME.out]; simp; omega, by rw [HE.out.2]; exact hpu.2.1, (HBW.out.trans (HB3.out.mono HLE.out)).trans hpu.2.2⟩
          case measure => simp [intOf]; omega
      · obtain rfl : j = l.length := by omega
        rw [keep_all] at hm ⊢
        have HM := Lib.hid (show keepM p l l.length = l.filter (fun x => !p x) ++ l.drop (l.filter (fun x => !p x)).length from by unfold keepM; rw [keep_all])
        obtain ⟨fl, hfl⟩ : ∃ fl, fl = l.filter (fun x => !p x) := ⟨_, rfl⟩
        rw [← hfl] at hm HM ⊢
        have HFL := Lib.hid hfl
        clear hfl
        obtain ⟨cur, hB', hg', hh, hn, hcm, hs, ht⟩ := own_blk HO.out
        have HHH := Lib.hid hh
        have HT := Lib.hid ht
        rw [keepM_len (Nat.le_refl _)] at hn
        obtain ⟨m, hme⟩ : ∃ m, m = fl.length := ⟨_, rfl⟩
        have HME := Lib.hid hme
        rw [← hme] at hm ⊢
        obtain ⟨n, hne⟩ : ∃ n, n = l.length := ⟨_, rfl⟩
        have HNE := Lib.hid hne
        rw [← hne] at hm hn hlt hj hj0 ⊢
        have hcl := fun ty => clearO_run wr g (m * 4) (n - m) (c - m) (by omega) (fun t ht => by rw [blkCell HHH.out, Array.getElem?_eq_getElem (by omega)]; rfl) (fun t ht => blkFrozen HHH.out _) ty
        have hm0 : (0 : Int) ≤ (m : Int) := by omega
        have hmc : (m : Int) ≤ (n : Int) := by omega
        have hmcc : (m : Int) ≤ (c : Int) := by omega
        have hncI : (n : Int) ≤ (c : Int) := by omega
        have hmn2 : ¬ c = m := by omega
        have hjj : ¬ (n : Int) < (n : Int) := by omega
        clear hh ht hme hne hlt hg' hB'
        go_wp2_with fail
        go_ret
        obtain ⟨cur2, q1, q2, q3⟩ := setCells_blk (zerO (n - m)) (m * 4) cur wr HHH.out
        refine ⟨_, rfl, ?_, HBW.out.trans (setCells_below hgB _ _ _)⟩
        have hlen : (keepM p l l.length).length = n := by rw [keepM_len (Nat.le_refl _), HNE.out]
        rw [← HFL.out]
        have hme := HME.out
        subst hme
        refine own_mk oftC_len hgB q1 (by omega) hcm (by rw [q2]; exact hs) (fun t h => ?_)
        have h3 : fl.length * 4 ≤ n * 4 := Nat.mul_le_mul_right _ (by omega)
        rw [q3, if_neg (by omega), HT.out t (by rw [hlen]; omega), HM.out, List.flatMap_append, List.getElem?_append_left (by rw [flat_len oftC_len]; exact h)]
end Go.Proofs.Ytmhpbmobfdgkeaa
/- The walk over package stat: column, counted. -/
namespace Go.Proofs.Ytmhpbmobfdgkeaa
open Go.RowKit
/-- The first k of a row, and nothing behind them. -/
def fillN (l : List Sp.Val) (k : Nat) : List Sp.Val := l.take k ++ List.replicate (l.length - k) Sp.nullV
theorem fillN_len (l : List Sp.Val) {k : Nat} (hk : k ≤ l.length) : (fillN l k).length = l.length := by unfold fillN; rw [List.length_append, List.length_take, List.length_replicate]; omega
theorem fillN_zero (l : List Sp.Val) : fillN l 0 = List.replicate l.length Sp.nullV := by simp [fillN]
theorem fillN_all (l : List Sp.Val) : fillN l l.length = l := by simp [fillN]
theorem fillN_set {l : List Sp.Val} {k : Nat} (hk : k < l.length) : (fillN l k).set k l[k] = fillN l (k + 1) := by
  unfold fillN
  rw [show l.length - k = (l.length - (k + 1)) + 1 by omega, List.replicate_succ, List.set_append_right _ _ (by rw [List.length_take]; omega), List.length_take, Nat.min_eq_left (by omega), Nat.sub_self, List.set_cons_zero, Sp.take_snoc l k hk, List.append_assoc]
  rfl
theorem fillN_null {l : List Sp.Val} {k : Nat} (hk : k < l.length) (h : l[k] = Sp.nullV) : fillN l (k + 1) = fillN l k := by
  unfold fillN
  rw [show l.length - k = (l.length - (k + 1)) + 1 by omega, List.replicate_succ, Sp.take_snoc l k hk, h, List.append_assoc]
  rfl
/-- As many values that are nothing. -/
def madeV (n : Nat) : Array Value := madeCells (Value.agg (valA Sp.nullV)).cells (n * 3)
theorem make_vals (n : Nat) (hn : n ≤ 1000) (W : World) : (Instr.makeSlice 32 (.int .i64 (n : Int)) (.int .i64 (n : Int))).run Try.prog W = .ok (.slice (some ⟨W.heap.size, 0, none⟩) n n) (W.alloc (.cells (madeV n) 36)) := by
  obtain ⟨i0, hi, hz0, hz1, hz2⟩ := info_parts info_val
  have h := run_make (P := Try.prog) W 32 36 i0 _ Try.underlying32 hi hz0 .i64 .i64 n n (by omega) (by omega) (by rw [hz2]; omega) (by omega)
  rw [hz1, Int.toNat_natCast] at h
  exact h
theorem made_own (n : Nat) (hn : n ≤ 1000) (w : World) : OwnL valC 3 36 w.heap.size (w.alloc (.cells (madeV n) 36)) (.slice (some ⟨w.heap.size, 0, none⟩) (List.replicate n Sp.nullV).length n) (List.replicate n Sp.nullV) := by
  refine own_mk valC_len (Nat.le_refl _) (heap_alloc_new w _) (by rw [List.length_replicate]; omega) (by unfold maxLen; omega) (size_madeCells _ _) (fun t ht => ?_)
  rw [List.length_replicate] at ht
  have hd : t / 3 < n := by omega
  have e1 : t = t / 3 * 3 + t % 3 := by omega
  conv => rhs; rw [e1, flat_at valC_len (List.replicate n Sp.nullV) (t / 3) (t % 3) (by rw [List.length_replicate]; exact hd) (by omega)]
  rw [List.getElem_replicate]
  unfold madeV madeCells
  rw [Array.getElem?_map, Array.getElem?_range, if_pos ht]
  have h3 : t % 3 < 3 := Nat.mod_lt _ (by omega)
  show some ((valA Sp.nullV)[t % 3]!) = (valC Sp.nullV)[t % 3]?
  generalize t % 3 = q at h3
  rcases q with _ | _ | _ | q
  · rfl
  · rfl
  · rfl
  · omega
set_option maxRecDepth 100000 in
set_option maxHeartbeats 4000000 in
theorem column_any (rows : List PRow) (hl : rows.length ≤ 1000) (hrl : ∀ r ∈ rows, r.l.length ≤ 140737488355328) (n : Nat) (hn : n ≤ 1000) (A : Option Addr) (c : Nat) (w : World) (hr : Reads w A c rows.length (rows.flatMap rowC)) (hrr : ∀ r ∈ rows, PRowR w r) :
    Calls Try.prog 20 #[.slice A rows.length c, .int .i64 (n : Int)] w (fun e w' => ∃ A' c', e = .returned (.slice A' rows.length c') ∧ Reads w' A' c' rows.length ((Sp.colAt (rows.map (·.l)) n).flatMap valC) ∧ Below w.heap.size w w') := by
  have HR := Lib.hid hr
  have HRR := Lib.hid hrr
  have HRL := Lib.hid hrl
  have hmk := make_vals rows.length hl
  have HMO := Lib.hid (made_own rows.length hl w)
  obtain ⟨L, hL⟩ : ∃ L, L = Sp.colAt (rows.map (·.l)) n := ⟨_, rfl⟩
  have hLl : L.length = rows.length := by rw [hL]; unfold Sp.colAt; simp
  have HAT := Lib.hid (show ∀ k (hk : k < rows.length) (hk' : k < L.length), L[k] = rows[k].l.getD n Sp.nullV from fun k hk hk' => by
    subst hL
    unfold Sp.colAt
    simp)
  have HLE := Lib.hid hL
  rw [← hL]
  have HLL := Lib.hid hLl
  clear hr hrr hrl hL hLl
  go_enter Try.func20, Try.ntmps20
  go_wp2_with fail
  clear hmk
  obtain ⟨g, hg⟩ : ∃ g, g = w.heap.size := ⟨_, rfl⟩
  have HG := Lib.hid hg
  have H0 := Lib.hid (allocB w (.cells (madeV rows.length) 36))
  rw [← hg] at HMO
  rw [← hg]
  generalize w.alloc (.cells (madeV rows.length) 36) = W0 at H0 HMO ⊢
  clear hg
  go_loopw [13] (fun i wr => ∃ k : Nat, k ≤ rows.length ∧ i = .int .i64 k ∧ OwnL valC 3 36 g wr (.slice (some ⟨g, 0, none⟩) (fillN L k).length rows.length) (fillN L k) ∧ Below w.heap.size w wr) (fun i _ => rows.length - (intOf i).toNat)
  case atStart => exact ⟨0, Nat.zero_le _, rfl, by rw [fillN_zero, HLL.out]; exact HMO.out, H0.out⟩
  case round =>
    clear HMO H0
    obtain ⟨k, hk, rfl, ho, hbw⟩ := hrel
    have HO := Lib.hid ho
    have HBW := Lib.hid hbw
    clear ho hbw
    have hk0 : (0 : Int) ≤ (k : Int) := by omega
    by_cases hlt : k < rows.length
    · have hltL : k < L.length := by have := HLL.out; omega
      obtain ⟨b, off, rfl, hca, hbl, hcell⟩ := read_at rowC_len (HR.out.below HBW.out) hlt
      have hki : (k : Int) < (rows.length : Int) := by omega
      have hwk : IntKind.i64.wrap ((k : Int) + 1) = (k : Int) + 1 := IntWalk.i64_in _ (by omega)
      have hrow := (HRR.out rows[k] (List.getElem_mem hlt)).below HBW.out
      have hrlen := HRL.out rows[k] (List.getElem_mem hlt)
      have hat := HAT.out k hlt hltL
      have HPUT := Lib.hid (own_put valC_len HO.out k (show k < (fillN L k).length from by rw [fillN_len _ (by omega)]; exact hltL) L[k])
      have HSET := Lib.hid (fillN_set hltL)
      have HNUL := Lib.hid (fillN_null hltL)
      generalize rows[k] = r at hcell hrow hrlen hat
      obtain ⟨rl, rA, rc⟩ := r
      simp only at hrow hrlen hat
      have hc0 : wr.cell? ⟨b, off + k, none⟩ = some (.slice rA rl.length rc) := by simpa using hcell 0 _ rfl
      by_cases hin : n < rl.length
      · obtain ⟨b2, off2, rfl, hca2, hbl2, hcell2⟩ := read_at valC_len hrow hin
        have hat2 : L[k] = rl[n] := by rw [hat, List.getD_eq_getElem?_getD, List.getElem?_eq_getElem hin]; rfl
        rw [hat2] at HPUT HSET HNUL
        generalize rl[n] = x at hcell2 HPUT HSET HNUL
        obtain ⟨ak, an, sa⟩ := x
        have HCELL := Lib.hid (show wr.rangeAt b2 (off2 + n * 3) [.int .i64 ak, .int .i64 an, .string sa] from hcell2)
        have HTH := Lib.hid (show wr.there g (k * 3) (#[.int .i64 ak, .int .i64 an, .string sa] : Array Value).size from HPUT.out.1)
        clear hat hat2 hcell hcell2 HNUL
        have hn0 : (0 : Int) ≤ (n : Int) := by omega
        have hni : (n : Int) < (rl.length : Int) := by omega
        go_wp2_with (first | (with_reducible refine wpList_load_mid rfl 36 (.tmp 26) rfl b2 (off2 + n * 3) rfl [.int .i64 ak, .int .i64 an, .string sa] _ HCELL.out Try.underlying36 (by kernel_rfl) (by kernel_rfl) ?_) | (with_reducible refine wpList_store_mid rfl 36 (.tmp 28) (.tmp 27) rfl g (k * 3) #[.int .i64 ak, .int .i64 an, .string sa] rfl rfl HTH.out (by kernel_rfl) (by kernel_rfl) ?_))
        go_roundw
        case rel => exact ⟨k + 1, by omega, by go_num, by rw [← HSET.out]; exact HPUT.out.2.1, HBW.out.trans (by rw [← HG.out]; exact HPUT.out.2.2)⟩
        case measure => simp [intOf]; omega
      · have HE := Lib.hid (HNUL.out (by rw [hat, List.getD_eq_getElem?_getD, List.getElem?_eq_none (by omega)]; rfl))
        have hni : ¬ (n : Int) < (rl.length : Int) := by omega
        clear hat hcell HPUT HSET HNUL hrow
        go_wp2_with fail
        go_roundw
        case rel => exact ⟨k + 1, by omega, by go_num, by rw [HE.out]; exact HO.out, HBW.out⟩
        case measure => simp [intOf]; omega
    · obtain rfl : k = rows.length := by omega
      go_wp2_with fail
      go_ret
      have ho := HO.out
      rw [← HLL.out, fillN_all] at ho
      exact ⟨_, _, rfl, by have := own_reads ho; rw [HLL.out] at this; exact this, HBW.out⟩
/-- How often one comes lies between one and all. -/
theorem cnt_bound (l : List Sp.Val) : ∀ o ∈ Sp.cntV l, 1 ≤ o.n ∧ o.n ≤ (l.length : Int) := by
  refine Sp.snoc_ind (P := fun l => ∀ o ∈ Sp.cntV l, 1 ≤ o.n ∧ o.n ≤ (l.length : Int)) (fun o ho => by cases ho) (fun l v ih o ho => ?_) l
  rw [List.length_append, List.length_singleton]
  have hone : ∀ o ∈ [(⟨v, 1⟩ : Sp.Oft)], 1 ≤ o.n ∧ o.n ≤ ((l.length + 1 : Nat) : Int) := fun o ho => by rw [List.mem_singleton.1 ho]; exact ⟨Int.le_refl _, by show (1 : Int) ≤ _; omega⟩
  rw [Sp.cntV_snoc] at ho
  unfold Sp.cntS at ho
  split at ho
  · rename_i q hq
    have hqm := ih q (List.mem_of_getLast? hq)
    split at ho
    · rcases List.mem_append.1 ho with h1 | h1
      · have := ih o (List.dropLast_subset _ h1); omega
      · rw [List.mem_singleton.1 h1]; simp only; omega
    · rcases List.mem_append.1 ho with h1 | h1
      · have := ih o h1; omega
      · exact hone o h1
  · rcases List.mem_append.1 ho with h1 | h1
    · have := ih o h1; omega
    · exact hone o h1
theorem cnt_len (l : List Sp.Val) : (Sp.cntV l).length ≤ l.length := by
  refine Sp.snoc_ind (P := fun l => (Sp.cntV l).length ≤ l.length) (Nat.le_refl _) (fun l v ih => ?_) l
  rw [List.length_append, List.length_singleton, Sp.cntV_snoc]
  unfold Sp.cntS
  split
  · split
    · rw [List.length_append, List.length_dropLast, List.length_singleton]; omega
    · rw [List.length_append, List.length_singleton]; omega
  · rw [List.length_append, List.length_singleton]; omega
theorem cnt_next_other {l : List Sp.Val} {v : Sp.Val} (h : ∀ (hp : (Sp.cntV l).length - 1 < (Sp.cntV l).length), Sp.ordV (Sp.cntV l)[(Sp.cntV l).length - 1].v v ≠ 0) : Sp.cntV (l ++ [v]) = Sp.cntV l ++ [⟨v, 1⟩] := by
  rw [Sp.cntV_snoc]
  unfold Sp.cntS
  split
  · rename_i q hq
    rw [List.getLast?_eq_getElem?] at hq
    have hp : (Sp.cntV l).length - 1 < (Sp.cntV l).length := (List.getElem?_eq_some_iff.1 hq).1
    rw [List.getElem?_eq_getElem hp] at hq
    injection hq with hq
    have := h hp
    rw [hq] at this
    rw [if_neg this]
  · rfl
theorem cnt_next_same {l : List Sp.Val} {v : Sp.Val} (hp : (Sp.cntV l).length - 1 < (Sp.cntV l).length) (h : Sp.ordV (Sp.cntV l)[(Sp.cntV l).length - 1].v v = 0) :
    Sp.cntV (l ++ [v]) = (Sp.cntV l).set ((Sp.cntV l).length - 1) ⟨(Sp.cntV l)[(Sp.cntV l).length - 1].v, (Sp.cntV l)[(Sp.cntV l).length - 1].n + 1⟩ := by
  rw [Sp.cntV_snoc]
  unfold Sp.cntS
  have hq : (Sp.cntV l).getLast? = some (Sp.cntV l)[(Sp.cntV l).length - 1] := by rw [List.getLast?_eq_getElem?, List.getElem?_eq_getElem hp]
  rw [hq]
  simp only
  rw [if_pos h]
  clear hq h
  generalize (Sp.cntV l)[(Sp.cntV l).length - 1] = x
  refine List.ext_getElem? fun i => ?_
  rw [List.getElem?_set, List.getElem?_append, List.length_dropLast]
  by_cases hi : i < (Sp.cntV l).length - 1
  · rw [if_pos hi, if_neg (by omega), List.getElem?_dropLast, if_pos hi]
  · rw [if_neg hi]
    by_cases hi2 : (Sp.cntV l).length - 1 = i
    · rw [if_pos hi2, if_pos hp, hi2, Nat.sub_self]; rfl
    · rw [if_neg hi2, List.getElem?_eq_none (l := Sp.cntV l) (by omega), List.getElem?_eq_none (by rw [List.length_singleton]; omega)]
set_option maxRecDepth 100000 in
set_option maxHeartbeats 4000000 in
theorem counted_any (l : List Sp.Val) (hl : l.length ≤ 1000) (A : Option Addr) (c : Nat) (w : World) (hr : Reads w A c l.length (l.flatMap valC)) :
    Calls Try.prog 38 #[.slice A l.length c] w (fun e w' => ∃ v, e = .returned v ∧ OwnL oftC 4 48 w.heap.size w' v (Sp.cntV l) ∧ Below w.heap.size w w') := by
  have HR := Lib.hid hr
  clear hr
  go_enter Try.func38, Try.ntmps38
  go_wp2_with fail
  go_loopw [3, 9] (fun v i wr => ∃ k : Nat, k ≤ l.length ∧ i = .int .i64 k ∧ OwnL oftC 4 48 w.heap.size wr v (Sp.cntV (l.take k)) ∧ Below w.heap.size w wr) (fun _ i _ => l.length - (intOf i).toNat)
  case atStart => exact ⟨0, Nat.zero_le _, rfl, ownNil _ _ _ _, Below.refl _ _⟩
  case round =>
    obtain ⟨k, hk, rfl, ho, hbw⟩ := hrel
    have HBW := Lib.hid hbw
    have hk0 : (0 : Int) ≤ (k : Int) := by omega
    by_cases hlt : k < l.length
    · obtain ⟨b, off, rfl, hca, hbl, hcell⟩ := read_at valC_len (HR.out.below hbw) hlt
      have hki : (k : Int) < (l.length : Int) := by omega
      have hwk : IntKind.i64.wrap ((k : Int) + 1) = (k : Int) + 1 := IntWalk.i64_in _ (by omega)
      have hbnd := cnt_bound (l.take k)
      have hcl := cnt_len (l.take k)
      rw [List.length_take, Nat.min_eq_left (by omega)] at hbnd hcl
      have HNX := Lib.hid (Sp.take_snoc l k hlt)
      have HOT := Lib.hid (@cnt_next_other (l.take k) l[k])
      have HSM := Lib.hid (@cnt_next_same (l.take k) l[k])
      have HOD := Lib.hid (fun y W => order_any y l[k] W)
      rw [← HNX.out] at HOT HSM
      obtain ⟨Q2, hQ2⟩ : ∃ Q2, Q2 = Sp.cntV (l.take (k + 1)) := ⟨_, rfl⟩
      rw [← hQ2] at HOT HSM
      have HQ2 := Lib.hid hQ2
      clear hQ2
      generalize Sp.cntV (l.take k) = Q at ho hbnd hcl HOT HSM
      generalize l[k] = x at hcell HOT HSM HOD
      obtain ⟨ak, an, sa⟩ := x
      dsimp only [valA] at HOD
      have HCELL := Lib.hid (show wr.rangeAt b (off + k * 3) [.int .i64 ak, .int .i64 an, .string sa] from hcell)
      clear hcell HNX
      obtain ⟨OA, oc, rfl⟩ := ownLen ho
      have HO := Lib.hid ho
      clear ho hbw hca
      go_upto_region 5 with (first | (with_reducible refine wpList_load_mid rfl 36 (.tmp 11) rfl b (off + k * 3) rfl [.int .i64 ak, .int .i64 an, .string sa] _ HCELL.out Try.underlying36 (by kernel_rfl) (by kernel_rfl) ?_) | (with_reducible refine wpList_store_new rfl 36 (.tmp 5) (.tmp 12) rfl #[.int .i64 ak, .int .i64 an, .string sa] _ _ rfl (by kernel_rfl) (by kernel_rfl) (by kernel_rfl) (by kernel_rfl) ?_))
      have HOB := Lib.hid (heap_alloc_new wr (.cells #[.int .i64 ak, .int .i64 an, .string sa] 36))
      have HBA := Lib.hid (allocB wr (.cells #[.int .i64 ak, .int .i64 an, .string sa] 36))
      have HO1 := Lib.hid (ownBelow HO.out (allocB wr (.cells #[.int .i64 ak, .int .i64 an, .string sa] 36)))
      obtain ⟨go, hgo⟩ : ∃ g, g = wr.heap.size := ⟨_, rfl⟩
      have HLE := Lib.hid (show w.heap.size ≤ go from by rw [hgo]; exact HBW.out.size)
      obtain ⟨W1, hW1⟩ : ∃ W, W = wr.alloc (.cells #[.int .i64 ak, .int .i64 an, .string sa] 36) := ⟨_, rfl⟩
      rw [← hgo, ← hW1] at HOB
      rw [← hW1] at HBA HO1
      rw [← hW1, ← hgo]
      have HB1 := Lib.hid (HBW.out.trans (HBA.out.mono HBW.out.size))
      clear hW1 HCELL HO HBA hgo
      have HBND := Lib.hid hbnd
      clear hbnd
      go_upto_region 6 with fail
      by_cases hq0 : Q.length = 0
      · have HE := Lib.hid (HOT.out (fun h => absurd h (by omega)))
        have hqi : ¬ (0 : Int) < (Q.length : Int) := by omega
        have hqd : decide (0 < Q.length) = false := decide_eq_false (by omega)
        clear HOT HSM HOD hq0 HBND
        have hSn : Below W1.heap.size W1 W1.drew := (Below.refl _ W1).drew
        refine wp_region_held_drew (S := (fun u => Below W1.heap.size W1 u)) (by kernel_rfl) ?_ (fun hHeld => ?_)
        · exact hSn
        generalize W1.drew = w9 at hSn ⊢
        refine tkW 0 (some 15) (v := ?_) rfl ?_ ?_
        rotate_left
        · intro u hSu; clear hSu; go_simp; (try with_reducible rfl)
        try simp only [Act.put, List.setIfInBounds_toArray, List.set_cons_zero, List.set_cons_succ]
        refine tkW 1 (some 16) (v := ?_) rfl ?_ ?_
        rotate_left
        · intro u hSu; clear hSu; go_simp; (try with_reducible rfl)
        try simp only [Act.put, List.setIfInBounds_toArray, List.set_cons_zero, List.set_cons_succ]
        refine tkW 2 (some 17) (v := ?_) rfl ?_ ?_
        rotate_left
        · intro u hSu; clear hSu; go_simp; (try with_reducible rfl)
        try simp only [Act.put, List.setIfInBounds_toArray, List.set_cons_zero, List.set_cons_succ]
        refine tkO 3 (some 18) rfl ?_
        try simp only [Act.put, List.setIfInBounds_toArray, List.set_cons_zero, List.set_cons_succ]
        refine tkO 4 (some 19) rfl ?_
        try simp only [Act.put, List.setIfInBounds_toArray, List.set_cons_zero, List.set_cons_succ]
        refine tkO 5 (some 20) rfl ?_
        try simp only [Act.put, List.setIfInBounds_toArray, List.set_cons_zero, List.set_cons_succ]
        refine tkO 6 (some 21) rfl ?_
        try simp only [Act.put, List.setIfInBounds_toArray, List.set_cons_zero, List.set_cons_succ]
        refine tkO 7 (some 22) rfl ?_
        try simp only [Act.put, List.setIfInBounds_toArray, List.set_cons_zero, List.set_cons_succ]
        refine tkO 8 (some 23) rfl ?_
        try simp only [Act.put, List.setIfInBounds_toArray, List.set_cons_zero, List.set_cons_succ]
        refine tkO 9 (some 24) rfl ?_
        try simp only [Act.put, List.setIfInBounds_toArray, List.set_cons_zero, List.set_cons_succ]
        refine tkO 10 (some 25) rfl ?_
        try simp only [Act.put, List.setIfInBounds_toArray, List.set_cons_zero, List.set_cons_succ]
        refine tkO 11 (some 26) rfl ?_
        try simp only [Act.put, List.setIfInBounds_toArray, List.set_cons_zero, List.set_cons_succ]
        refine tkW 12 (some 27) (v := ?_) rfl ?_ ?_
        rotate_left
        · intro u hSu; clear hSu; go_simp; (try with_reducible rfl)
        try simp only [Act.put, List.setIfInBounds_toArray, List.set_cons_zero, List.set_cons_succ]
        refine wpAnyH_done (by kernel_rfl) ?_ _
        clear hHeld
        obtain ⟨w8, rfl⟩ : ∃ wm : World, wm = w9 := ⟨_, rfl⟩
        have HOB8 := Lib.hid (blkOld HOB.out hSn)
        have HO8 := Lib.hid (ownBelow HO1.out hSn)
        have HB8 := Lib.hid (HB1.out.trans (hSn.mono HB1.out.size))
        clear hSn HOB HO1 HB1
        go_wp2_with (first | (with_reducible refine listLoad (by kernel_rfl) 36 (.tmp 5) rfl go rfl #[.int .i64 ak, .int .i64 an, .string sa] _ HOB8.out _ Try.underlying36 (by kernel_rfl) (by kernel_rfl) ?_) | (at_builtin; refine wpList_push (by kernel_rfl) (.tmp 37) (.tmp 40) 37 48 Try.underlying37 info_oft rfl (by omega) (by omega) rfl w.heap.size _ Q.length (Q.flatMap oftC) rfl (ownBelow HO8.out (allocB _ _)) w8.heap.size (oftC ⟨⟨ak, an, sa⟩, 1⟩) 48 rfl (heap_alloc_new w8 _) rfl (oftC_one _) (by omega) (by have := HB8.out.size; simp; omega) ?_; intro v7 w7 ho7 hg7 hb7))
        go_roundw
        case rel => exact ⟨k + 1, by omega, by go_num, by rw [← HQ2.out, HE.out]; exact OwnL.push (enc := oftC) (x := ⟨⟨ak, an, sa⟩, 1⟩) ho7, (HB8.out.trans ((allocB _ _).mono HB8.out.size)).trans hb7⟩
        case measure => simp [intOf]; omega
      · obtain ⟨og, rfl, hog⟩ : ∃ g, OA = some ⟨g, 0, none⟩ ∧ w.heap.size ≤ g := by
          rcases HO1.out.2 with ⟨h, h0⟩ | ⟨g, cap, cur, hv, hg, _⟩
          · exact absurd h0 hq0
          · injection hv with h1 h2 h3
            exact ⟨g, h1, hg⟩
        have hm : Q.length - 1 < Q.length := by omega
        have HRG := Lib.hid (own_range oftC_len HO1.out (Q.length - 1) hm)
        have HSET := Lib.hid (fun u (hu : World.ownsRow u w.heap.size 48 4 (.slice (some ⟨og, 0, none⟩) Q.length oc) Q.length (Q.flatMap oftC)) => ownSetAt hu ((Q.length - 1) * 4 + 3) (by omega))
        have HFS := Lib.hid (fun y x h => flat_set oftC_len Q (Q.length - 1) 3 y x hm (by omega) h)
        have hbd := HBND.out Q[Q.length - 1] (List.getElem_mem hm)
        have HOR := Lib.hid (fun W => HOD.out Q[Q.length - 1].v W)
        have HOT2 := Lib.hid (show Sp.ordV Q[Q.length - 1].v ⟨ak, an, sa⟩ ≠ 0 → _ from fun h => HOT.out (fun _ => h))
        have HSM2 := Lib.hid (HSM.out hm)
        have HFA := Lib.hid (flat_at oftC_len Q (Q.length - 1) 3 hm (by omega))
        have HML := Lib.hid (show Q.length - 1 + 1 = Q.length from by omega)
        have hqi : (0 : Int) < (Q.length : Int) := by omega
        have hqd : decide (0 < Q.length) = true := decide_eq_true (by omega)
        have hw1 : IntKind.i64.wrap ((Q.length : Int) - 1) = ((Q.length - 1 : Nat) : Int) := by rw [show (Q.length : Int) - 1 = ((Q.length - 1 : Nat) : Int) by omega]; exact IntWalk.i64_in _ (by omega)
        have hw2 : (0 : Int) ≤ ((Q.length - 1 : Nat) : Int) := by omega
        have hw3 : ((Q.length - 1 : Nat) : Int) < (Q.length : Int) := by omega
        clear HOT HSM HOD hq0 HBND
        generalize Q[Q.length - 1] = y at HRG HFS hbd HOR HOT2 HSM2 HFA
        obtain ⟨m, hme⟩ : ∃ m, m = Q.length - 1 := ⟨_, rfl⟩
        rw [← hme] at hm HRG HSET HFS HSM2 HML hw1 hw2 hw3 HFA
        clear hme
        obtain ⟨⟨bk, bn, sb⟩, bc⟩ := y
        simp only at hbd HOT2 HSM2
        dsimp only [valA] at HOR
        obtain ⟨o, ho⟩ : ∃ o, o = Sp.ordV ⟨bk, bn, sb⟩ ⟨ak, an, sa⟩ := ⟨_, rfl⟩
        rw [← ho] at HOT2 HSM2
        simp only [← ho] at HOR
        clear ho
        have HYR := Lib.hid (show ∀ u, Below W1.heap.size W1 u → u.rangeAt og (m * 4) [.int .i64 bk, .int .i64 bn, .string sb] from fun u hu i v hv => by
          have h8 := HRG.out i v (by rcases i with _ | _ | _ | i <;> simp [oftC] at hv ⊢ <;> exact hv)
          rw [hu.cell (p := ⟨og, m * 4 + i, none⟩) (by have := own_blk HO1.out; obtain ⟨_, _, h, _⟩ := this; exact h)]
          exact h8)
        have HWR := Lib.hid (show wr.heap.size = wr.heap.size from rfl)
        clear HRG HWR
        by_cases ho : o = 0
        rotate_left
        · have HE := Lib.hid (HOT2.out ho)
          have ho2 : (o == 0) = false := by simpa using ho
          clear HOT2 HSM2 ho HSET HFS HFA
          have hSn : Below W1.heap.size W1 W1.drew := (Below.refl _ W1).drew
          refine wp_region_held_drew (S := (fun u => Below W1.heap.size W1 u)) (by kernel_rfl) ?_ (fun hHeld => ?_)
          · exact hSn
          generalize W1.drew = w9 at hSn ⊢
          refine tkW 0 (some 15) (v := ?_) rfl ?_ ?_
          rotate_left
          · intro u hSu; clear hSu; go_simp; (try with_reducible rfl)
          try simp only [Act.put, List.setIfInBounds_toArray, List.set_cons_zero, List.set_cons_succ]
          refine tkW 1 (some 16) (v := ?_) rfl ?_ ?_
          rotate_left
          · intro u hSu; clear hSu; go_simp; (try with_reducible rfl)
          try simp only [Act.put, List.setIfInBounds_toArray, List.set_cons_zero, List.set_cons_succ]
          refine tkW 2 (some 17) (v := ?_) rfl ?_ ?_
          rotate_left
          · intro u hSu; clear hSu; go_simp; (try with_reducible rfl)
          try simp only [Act.put, List.setIfInBounds_toArray, List.set_cons_zero, List.set_cons_succ]
          refine tkW 3 (some 18) (v := ?_) rfl ?_ ?_
          rotate_left
          · intro u hSu; clear hSu; go_simp; (try with_reducible rfl)
          try simp only [Act.put, List.setIfInBounds_toArray, List.set_cons_zero, List.set_cons_succ]
          refine tkW 4 (some 19) (v := ?_) rfl ?_ ?_
          rotate_left
          · intro u hSu; clear hSu; go_simp; (try with_reducible rfl)
          try simp only [Act.put, List.setIfInBounds_toArray, List.set_cons_zero, List.set_cons_succ]
          refine tkW 5 (some 20) (v := ?_) rfl ?_ ?_
          rotate_left
          · intro u hSu; clear hSu; go_simp; (try with_reducible rfl)
          try simp only [Act.put, List.setIfInBounds_toArray, List.set_cons_zero, List.set_cons_succ]
          refine tkW 6 (some 21) (v := ?_) rfl ?_ ?_
          rotate_left
          · intro u hSu; clear hSu; go_simp; (try with_reducible rfl)
          try simp only [Act.put, List.setIfInBounds_toArray, List.set_cons_zero, List.set_cons_succ]
          refine tkW 7 (some 22) (v := ?_) rfl ?_ ?_
          rotate_left
          · intro u hSu; clear hSu; go_simp; (try with_reducible rfl)
          try simp only [Act.put, List.setIfInBounds_toArray, List.set_cons_zero, List.set_cons_succ]
          refine tkV 8 (some 23) (v := .agg #[.int .i64 bk, .int .i64 bn, .string sb]) rfl (yieldsIf_load_mid (by rfl) 36 (.tmp 22) rfl og (m * 4) (by rfl) [.int .i64 bk, .int .i64 bn, .string sb] _ HYR.out Try.underlying36 (by kernel_rfl) (by kernel_rfl)) ?_
          try simp only [Act.put, List.setIfInBounds_toArray, List.set_cons_zero, List.set_cons_succ]
          refine tkV 9 (some 24) (v := .agg #[.int .i64 ak, .int .i64 an, .string sa]) rfl (yieldsIf_load_mid (by rfl) 36 (.tmp 5) rfl go 0 (by rfl) #[.int .i64 ak, .int .i64 an, .string sa].toList _ (fun u hu => (by intro j v hj; rw [Nat.zero_add, blkCell (blkOld HOB.out hu)]; simpa using hj)) Try.underlying36 (by kernel_rfl) (by kernel_rfl)) ?_
          try simp only [Act.put, List.setIfInBounds_toArray, List.set_cons_zero, List.set_cons_succ]
          refine rdH 10 (some 25) rfl (fun K hK => ?_)
          go_simp
          (with_reducible refine (HOR.out _).mono ?_); rintro e w4 ⟨rfl, hg4⟩; have hSm := joinB hSn hg4.below; clear hSn hg4; have hSn := hSm; clear hSm
          refine hK.out _ _ ?_ (fun hHeld => ?_)
          · exact hSn
          clear hK K
          try simp only [Act.put, List.setIfInBounds_toArray, List.set_cons_zero, List.set_cons_succ]
          refine tkW 11 (some 26) (v := ?_) rfl ?_ ?_
          rotate_left
          · intro u hSu; clear hSu; go_simp; (try with_reducible rfl)
          try simp only [Act.put, List.setIfInBounds_toArray, List.set_cons_zero, List.set_cons_succ]
          refine tkW 12 (some 27) (v := ?_) rfl ?_ ?_
          rotate_left
          · intro u hSu; clear hSu; go_simp; (try with_reducible rfl)
          try simp only [Act.put, List.setIfInBounds_toArray, List.set_cons_zero, List.set_cons_succ]
          refine wpAnyH_done (by kernel_rfl) ?_ _
          clear hHeld
          obtain ⟨w8, rfl⟩ : ∃ wm : World, wm = w4 := ⟨_, rfl⟩
          have HOB8 := Lib.hid (blkOld HOB.out hSn)
          have HO8 := Lib.hid (ownBelow HO1.out hSn)
          have HB8 := Lib.hid (HB1.out.trans (hSn.mono HB1.out.size))
          clear hSn HOB HO1 HB1
          go_wp2_with (first | (with_reducible refine listLoad (by kernel_rfl) 36 (.tmp 5) rfl go rfl #[.int .i64 ak, .int .i64 an, .string sa] _ HOB8.out _ Try.underlying36 (by kernel_rfl) (by kernel_rfl) ?_) | (at_builtin; refine wpList_push (by kernel_rfl) (.tmp 37) (.tmp 40) 37 48 Try.underlying37 info_oft rfl (by omega) (by omega) rfl w.heap.size _ Q.length (Q.flatMap oftC) rfl (ownBelow HO8.out (allocB _ _)) w8.heap.size (oftC ⟨⟨ak, an, sa⟩, 1⟩) 48 rfl (heap_alloc_new w8 _) rfl (oftC_one _) (by omega) (by have := HB8.out.size; simp; omega) ?_; intro v7 w7 ho7 hg7 hb7))
          go_roundw
          case rel => exact ⟨k + 1, by omega, by go_num, by rw [← HQ2.out, HE.out]; exact OwnL.push (enc := oftC) (x := ⟨⟨ak, an, sa⟩, 1⟩) ho7, (HB8.out.trans ((allocB _ _).mono HB8.out.size)).trans hb7⟩
          case measure => simp [intOf]; omega
        · have HE := Lib.hid (HSM2.out ho)
          have ho2 : (o == 0) = true := by simpa using ho
          clear HOT2 HSM2 ho
          have hSn : Below W1.heap.size W1 W1.drew := (Below.refl _ W1).drew
          refine wp_region_held_drew (S := (fun u => Below W1.heap.size W1 u)) (by kernel_rfl) ?_ (fun hHeld => ?_)
          · exact hSn
          generalize W1.drew = w9 at hSn ⊢
          refine tkW 0 (some 15) (v := ?_) rfl ?_ ?_
          rotate_left
          · intro u hSu; clear hSu; go_simp; (try with_reducible rfl)
          try simp only [Act.put, List.setIfInBounds_toArray, List.set_cons_zero, List.set_cons_succ]
          refine tkW 1 (some 16) (v := ?_) rfl ?_ ?_
          rotate_left
          · intro u hSu; clear hSu; go_simp; (try with_reducible rfl)
          try simp only [Act.put, List.setIfInBounds_toArray, List.set_cons_zero, List.set_cons_succ]
          refine tkW 2 (some 17) (v := ?_) rfl ?_ ?_
          rotate_left
          · intro u hSu; clear hSu; go_simp; (try with_reducible rfl)
          try simp only [Act.put, List.setIfInBounds_toArray, List.set_cons_zero, List.set_cons_succ]
          refine tkW 3 (some 18) (v := ?_) rfl ?_ ?_
          rotate_left
          · intro u hSu; clear hSu; go_simp; (try with_reducible rfl)
          try simp only [Act.put, List.setIfInBounds_toArray, List.set_cons_zero, List.set_cons_succ]
          refine tkW 4 (some 19) (v := ?_) rfl ?_ ?_
          rotate_left
          · intro u hSu; clear hSu; go_simp; (try with_reducible rfl)
          try simp only [Act.put, List.setIfInBounds_toArray, List.set_cons_zero, List.set_cons_succ]
          refine tkW 5 (some 20) (v := ?_) rfl ?_ ?_
          rotate_left
          · intro u hSu; clear hSu; go_simp; (try with_reducible rfl)
          try simp only [Act.put, List.setIfInBounds_toArray, List.set_cons_zero, List.set_cons_succ]
          refine tkW 6 (some 21) (v := ?_) rfl ?_ ?_
          rotate_left
          · intro u hSu; clear hSu; go_simp; (try with_reducible rfl)
          try simp only [Act.put, List.setIfInBounds_toArray, List.set_cons_zero, List.set_cons_succ]
          refine tkW 7 (some 22) (v := ?_) rfl ?_ ?_
          rotate_left
          · intro u hSu; clear hSu; go_simp; (try with_reducible rfl)
          try simp only [Act.put, List.setIfInBounds_toArray, List.set_cons_zero, List.set_cons_succ]
          refine tkV 8 (some 23) (v := .agg #[.int .i64 bk, .int .i64 bn, .string sb]) rfl (yieldsIf_load_mid (by rfl) 36 (.tmp 22) rfl og (m * 4) (by rfl) [.int .i64 bk, .int .i64 bn, .string sb] _ HYR.out Try.underlying36 (by kernel_rfl) (by kernel_rfl)) ?_
          try simp only [Act.put, List.setIfInBounds_toArray, List.set_cons_zero, List.set_cons_succ]
          refine tkV 9 (some 24) (v := .agg #[.int .i64 ak, .int .i64 an, .string sa]) rfl (yieldsIf_load_mid (by rfl) 36 (.tmp 5) rfl go 0 (by rfl) #[.int .i64 ak, .int .i64 an, .string sa].toList _ (fun u hu => (by intro j v hj; rw [Nat.zero_add, blkCell (blkOld HOB.out hu)]; simpa using hj)) Try.underlying36 (by kernel_rfl) (by kernel_rfl)) ?_
          try simp only [Act.put, List.setIfInBounds_toArray, List.set_cons_zero, List.set_cons_succ]
          refine rdH 10 (some 25) rfl (fun K hK => ?_)
          go_simp
          (with_reducible refine (HOR.out _).mono ?_); rintro e w4 ⟨rfl, hg4⟩; have hSm := joinB hSn hg4.below; clear hSn hg4; have hSn := hSm; clear hSm
          refine hK.out _ _ ?_ (fun hHeld => ?_)
          · exact hSn
          clear hK K
          try simp only [Act.put, List.setIfInBounds_toArray, List.set_cons_zero, List.set_cons_succ]
          refine tkW 11 (some 26) (v := ?_) rfl ?_ ?_
          rotate_left
          · intro u hSu; clear hSu; go_simp; (try with_reducible rfl)
          try simp only [Act.put, List.setIfInBounds_toArray, List.set_cons_zero, List.set_cons_succ]
          refine tkW 12 (some 27) (v := ?_) rfl ?_ ?_
          rotate_left
          · intro u hSu; clear hSu; go_simp; (try with_reducible rfl)
          try simp only [Act.put, List.setIfInBounds_toArray, List.set_cons_zero, List.set_cons_succ]
          refine wpAnyH_done (by kernel_rfl) ?_ _
          clear hHeld
          obtain ⟨w8, rfl⟩ : ∃ wm : World, wm = w4 := ⟨_, rfl⟩
          have HO8 := Lib.hid (ownBelow HO1.out hSn)
          have HB8 := Lib.hid (HB1.out.trans (hSn.mono HB1.out.size))
          clear hSn HOB HO1 HB1 HYR HOR
          obtain ⟨hx1, hx2, hx3⟩ := HSET.out _ HO8.out
          rw [HFA.out] at hx1
          have hx4 : w8.cell? ⟨og, m * 4 + 3, none⟩ = some (.int .i64 bc) := hx1
          have HX3 := Lib.hid hx3
          have hwb : IntKind.i64.wrap (bc + 1) = bc + 1 := IntWalk.i64_in _ (by omega)
          clear hx1 hx3 HSET HFA
          go_wp2_with fail
          go_roundw
          case rel =>
            have h5 := HX3.out (.int .i64 (bc + 1))
            rw [HFS.out ⟨⟨bk, bn, sb⟩, bc + 1⟩ _ rfl] at h5
            refine ⟨k + 1, by omega, by go_num, ?_, HB8.out.trans ((Below.refl _ _).setCell (p := ⟨og, m * 4 + 3, none⟩) hog _)⟩
            rw [← HQ2.out, HE.out]
            show World.ownsRow _ _ _ 4 _ (Q.set m _).length _
            rw [List.length_set]
            exact h5
          case measure => simp [intOf]; omega
    · obtain rfl : k = l.length := by omega
      rw [List.take_length] at ho
      have HO := Lib.hid ho
      clear ho hbw
      go_wp2_with fail
      go_ret
      exact ⟨_, rfl, HO.out, HBW.out⟩
end Go.Proofs.Ytmhpbmobfdgkeaa
/- A region that draws its order, and whose last store turns what its loads read: a condition on the world that is shown anew behind each operation until a named one has come up. -/
namespace Go
section
variable {P : Program} {ops : Array Oper} {Q : Exit → Act → World → Prop} {md : Region.Mode} {S : World → Prop} {z : Nat}
/-- Whatever has come up, what it waits for has come up. -/
def ShutDown (md : Region.Mode) (ops : Array Oper) (l : Array Bool) : Prop :=
  ∀ j o, ops[j]? = some o → l.getD j false = true → ∀ e ∈ o.after, Region.binds md e = true → l.getD e.on false = true
def shutDownB (md : Region.Mode) (ops : Array Oper) (l : Array Bool) : Bool :=
  (List.range ops.size).all fun j => !l.getD j false || match ops[j]? with
    | none => true
    | some o => o.after.all fun e => !Region.binds md e || l.getD e.on false
theorem shutDown_of {l : Array Bool} (h : shutDownB md ops l = true) : ShutDown md ops l := by
  intro j o ho hj e he hb
  unfold shutDownB at h
  rw [List.all_eq_true] at h
  have h1 := h j (List.mem_range.2 (Array.getElem?_eq_some_iff.1 ho).1)
  rw [ho, hj] at h1
  simp only [Bool.not_true, Bool.false_or] at h1
  have h2 := Array.all_eq_true_iff_forall_mem.1 h1 e he
  rw [hb] at h2
  simpa using h2
theorem getD_swap {l : Array Bool} {i : Nat} (h : l.getD i true = false) : l.getD i false = false := by
  rcases Nat.lt_or_ge i l.size with h' | h'
  · simp [h'] at h ⊢; exact h
  · simp [Array.getElem?_eq_none h'] at h
theorem getD_setSelf {l : Array Bool} {i : Nat} (h : l.getD i true = false) : (l.setIfInBounds i true).getD i false = true := by
  rcases Nat.lt_or_ge i l.size with h' | h'
  · simp [h']
  · simp [Array.getElem?_eq_none h'] at h
theorem shutDown_set {l : Array Bool} {j : Nat} (h : ShutDown md ops l) (hj : j ∈ Region.ready md ops l) : ShutDown md ops (l.setIfInBounds j true) := by
  obtain ⟨h0, oj, hoj, hall⟩ := mem_ready.1 hj
  intro k o hk hl e he hb
  by_cases hkj : j = k
  · subst hkj
    rw [hoj] at hk
    injection hk with hk
    subst hk
    exact getD_set_true (hall e he hb)
  · rw [getD_set_ne false hkj] at hl
    exact getD_set_true (h k o hk hl e he hb)
/-- Each of a list waits for the one ahead of it. -/
def pathB (md : Region.Mode) (ops : Array Oper) : List Nat → Bool
  | [] => true
  | [_] => true
  | a :: b :: r => (match ops[b]? with
    | none => false
    | some o => o.after.any fun e => Region.binds md e && e.on == a) && pathB md ops (b :: r)
theorem path_listed {l : Array Bool} (hc : ShutDown md ops l) : ∀ (p : List Nat) (a : Nat), pathB md ops (a :: p) = true → l.getD ((a :: p).getLast (by simp)) false = true → l.getD a false = true := by
  intro p
  induction p with
  | nil => intro a _ h; simpa using h
  | cons b r ih =>
    intro a hp hl
    unfold pathB at hp
    rw [Bool.and_eq_true] at hp
    have hb := ih b hp.2 (by simpa using hl)
    cases ho : ops[b]? with
    | none => rw [ho] at hp; simp at hp
    | some o =>
      rw [ho] at hp
      obtain ⟨e, he, h2⟩ := Array.any_eq_true'.1 hp.1
      rw [Bool.and_eq_true] at h2
      have h3 := hc b o ho hb e he h2.1
      rwa [show e.on = a by simpa using h2.2] at h3
/-- From i a list of waiting leads to z. -/
def leads (md : Region.Mode) (ops : Array Oper) (i : Nat) (p : List Nat) (z : Nat) : Bool := pathB md ops (i :: p) && (i :: p).getLast (by simp) == z && i != z
theorem leads_not {l : Array Bool} {i : Nat} {p : List Nat} (h : leads md ops i p z = true) (hc : ShutDown md ops l) (hi : l.getD i true = false) : z ∉ Region.ready md ops l := by
  unfold leads at h
  rw [Bool.and_eq_true, Bool.and_eq_true] at h
  obtain ⟨⟨h1, h2⟩, h3⟩ := h
  intro hz
  have h4 := shutDown_set hc hz
  have h5 := path_listed h4 p i h1 (by rw [show (i :: p).getLast (by simp) = z by simpa using h2]; exact getD_setSelf (mem_ready.1 hz).1)
  rw [getD_set_ne false (by simp at h3; exact fun e => h3 e.symm)] at h5
  rw [getD_swap hi] at h5
  cases h5
/-- Whatever order is picked from here on, and S holds behind every operation that is carried out, as long as z has not come up. -/
def wpAnyZ (P : Program) (md : Region.Mode) (ops : Array Oper) (Q : Exit → Act → World → Prop) (S : World → Prop) (z : Nat) : Nat → Array Bool → Act → World → Prop
  | 0, listed, a, w => Region.ready md ops listed = [] ∧ Q .normal a w
  | fuel + 1, listed, a, w =>
    (Region.ready md ops listed = [] → Q .normal a w) ∧
    ∀ i ∈ Region.ready md ops listed, wpOp P ops Q i (fun a' w' => ((listed.setIfInBounds i true).getD z true = false → S w') ∧ wpAnyZ P md ops Q S z fuel (listed.setIfInBounds i true) a' w') a w
theorem wpAny_of_Z : ∀ (fuel : Nat) (listed : Array Bool) (a : Act) (w : World), wpAnyZ P md ops Q S z fuel listed a w → wpAny P md ops Q fuel listed a w
  | 0, _, _, _, h => h
  | fuel + 1, _, _, _, h => ⟨h.1, fun i hi => wpOp_mono (fun a' w' h' => wpAny_of_Z fuel _ a' w' h'.2) (h.2 i hi)⟩
theorem wpAnyZ_first {i : Nat} {oi : Oper} {v : Value} {p : List Nat} (hi : ops[i]? = some oi) (hsel : ∀ (j : Nat) (o : Oper) cs b, ops[j]? = some o → o.op ≠ .select cs b)
    (hQ : ∀ c a w, Q (.panic c) (a.put oi.dst v) w → Q (.panic c) a w) (hl : leads md ops i p z = true) :
    ∀ (fuel : Nat) (listed : Array Bool) (a : Act) (w : World), ShutDown md ops listed → listed.getD z true = false →
      (∀ j oj, ops[j]? = some oj → j ≠ i → listed.getD j true = false → (∀ e ∈ oj.after, Region.binds md e = true → e.on ≠ i) → oi.apart ops oj = true) →
      i ∈ Region.ready md ops listed → YieldsIf P ops S oi v a → S w →
      wpAnyZ P md ops Q S z fuel (listed.setIfInBounds i true) (a.put oi.dst v) w → wpAnyZ P md ops Q S z (fuel + 1) listed a w := by
  have hiz : i ≠ z := by
    unfold leads at hl
    rw [Bool.and_eq_true] at hl
    simpa using hl.2
  intro fuel
  induction fuel with
  | zero =>
    intro listed a w _ hzu _ hr hy hS H
    refine ⟨fun h => (by rw [h] at hr; cases hr), fun j hj => ?_⟩
    by_cases hji : j = i
    · subst hji; exact hy.wpOp hi hS ⟨fun _ => hS, H⟩
    · have := ready_mono hj hji
      rw [H.1] at this
      cases this
  | succ fuel ih =>
    intro listed a w hsd hzu hfree hr hy hS H
    refine ⟨fun h => (by rw [h] at hr; cases hr), fun j hj => ?_⟩
    by_cases hji : j = i
    · subst hji; exact hy.wpOp hi hS ⟨fun _ => hS, H⟩
    · have hjz : j ≠ z := fun e => leads_not hl hsd (mem_ready.1 hr).1 (e ▸ hj)
      have h1 := H.2 j (ready_mono hj hji)
      obtain ⟨hjun, oj, hoj, hall⟩ := mem_ready.1 hj
      have hnot : ∀ e ∈ oj.after, Region.binds md e = true → e.on ≠ i := fun e he hb heq => by
        have h1 := hall e he hb
        have h0 := (mem_ready.1 hr).1
        rw [heq] at h1
        rw [getD_swap h0] at h1
        cases h1
      have h2 := wpOp_putIf hoj (hfree j oj hoj hji hjun hnot) (fun cs b => hsel i oi cs b hi) (fun cs b => hsel j oj cs b hoj) hQ hy h1
      have hfree' : ∀ k ok, ops[k]? = some ok → k ≠ i → (listed.setIfInBounds j true).getD k true = false →
          (∀ e ∈ ok.after, Region.binds md e = true → e.on ≠ i) → oi.apart ops ok = true := fun k ok hk hki hun hno => by
        refine hfree k ok hk hki ?_ hno
        by_cases hjk : j = k
        · subst hjk; exact hjun
        · rw [getD_set_ne true hjk] at hun; exact hun
      refine wpOp_mono (fun a' w' h3 => ?_) h2
      have hSw : S w' := h3.2.1 (by rw [getD_set_ne true hjz, getD_set_ne true hiz]; exact hzu)
      refine ⟨fun _ => hSw, ih (listed.setIfInBounds j true) a' w' (shutDown_set hsd hj) (by rw [getD_set_ne true hjz]; exact hzu) hfree' (ready_mono hr (Ne.symm hji)) h3.1 hSw ?_⟩
      rw [Array.setIfInBounds_comm _ _ hji]
      exact h3.2.2
theorem wpAnyZ_take {i : Nat} {oi : Oper} {v : Value} {p : List Nat} {fuel : Nat} {listed : Array Bool} {a : Act} {w : World} (hi : ops[i]? = some oi)
    (hl : leads md ops i p z = true) (hsd : shutDownB md ops listed = true) (hzu : listed.getD z true = false)
    (hs : Region.noSelect ops = true) (hf : Region.free md ops listed i = true) (hr : (Region.ready md ops listed).contains i = true)
    (hQ : ∀ c a w, Q (.panic c) (a.put oi.dst v) w → Q (.panic c) a w) (hy : YieldsIf P ops S oi v a) (hS : S w)
    (h : wpAnyZ P md ops Q S z fuel (listed.setIfInBounds i true) (a.put oi.dst v) w) : wpAnyZ P md ops Q S z (fuel + 1) listed a w :=
  wpAnyZ_first hi (Region.noSelect_spec hs) hQ hl fuel listed a w (shutDown_of hsd) hzu (Region.free_spec hi hf) (by simpa using hr) hy hS h
theorem wpAnyZ_done {listed : Array Bool} {a : Act} {w : World} (hr : Region.ready md ops listed = []) (h : Q .normal a w) :
    ∀ fuel, wpAnyZ P md ops Q S z fuel listed a w
  | 0 => ⟨hr, h⟩
  | _ + 1 => ⟨fun _ => h, by rw [hr]; simp⟩
def AllReadyZ (P : Program) (md : Region.Mode) (ops : Array Oper) (Q : Exit → Act → World → Prop) (S : World → Prop) (z fuel : Nat) (listed : Array Bool) (a : Act) (w : World) (rs : List Nat) : Prop :=
  ∀ i ∈ rs, wpOp P ops Q i (fun a' w' => ((listed.setIfInBounds i true).getD z true = false → S w') ∧ wpAnyZ P md ops Q S z fuel (listed.setIfInBounds i true) a' w') a w
theorem AllReadyZ.nil {fuel : Nat} {listed : Array Bool} {a : Act} {w : World} : AllReadyZ P md ops Q S z fuel listed a w [] := fun _ h => by cases h
theorem AllReadyZ.cons {fuel : Nat} {listed : Array Bool} {a : Act} {w : World} {i : Nat} {o : Oper} {rs : List Nat} (ho : ops[i]? = some o)
    (h : ∀ K' : Act → World → Prop, Shut (∀ a w, S w → (S w → wpAnyZ P md ops Q S z fuel (listed.setIfInBounds i true) a w) → K' a w) → if Region.wanted o (yielded ops a.tmps) = true then Oper.wp P o a w K' Q else K' (a.put o.dst undef) w)
    (hs : AllReadyZ P md ops Q S z fuel listed a w rs) : AllReadyZ P md ops Q S z fuel listed a w (i :: rs) := fun j hj => by
  rcases List.mem_cons.1 hj with rfl | hj
  · exact wpOp_step ho (fun K' hK => h K' (fun a w hS hW => hK a w ⟨fun _ => hS, hW hS⟩))
  · exact hs j hj
/-- At z itself, and behind it: nothing is asked. -/
theorem AllReadyZ.last {fuel : Nat} {listed : Array Bool} {a : Act} {w : World} {i : Nat} {o : Oper} {rs : List Nat} (ho : ops[i]? = some o) (hz : (listed.setIfInBounds i true).getD z true = true)
    (h : ∀ K' : Act → World → Prop, Shut (∀ a w, wpAnyZ P md ops Q S z fuel (listed.setIfInBounds i true) a w → K' a w) → if Region.wanted o (yielded ops a.tmps) = true then Oper.wp P o a w K' Q else K' (a.put o.dst undef) w)
    (hs : AllReadyZ P md ops Q S z fuel listed a w rs) : AllReadyZ P md ops Q S z fuel listed a w (i :: rs) := fun j hj => by
  rcases List.mem_cons.1 hj with rfl | hj
  · exact wpOp_step ho (fun K' hK => h K' (fun a w hW => hK a w ⟨fun h0 => (by rw [hz] at h0; cases h0), hW⟩))
  · exact hs j hj
theorem wpAnyZ_ready {rs : List Nat} {fuel : Nat} {listed : Array Bool} {a : Act} {w : World} (hr : Region.ready md ops listed = rs) (hne : rs ≠ [])
    (h : AllReadyZ P md ops Q S z fuel listed a w rs) : wpAnyZ P md ops Q S z (fuel + 1) listed a w :=
  ⟨fun h0 => absurd (hr ▸ h0) hne, hr ▸ h⟩
theorem wp_region_Z {id : Nat} {a : Act} {w : World} (z : Nat) (hm : P.follows .mixedOrders = true) (hS : S w.drew)
    (h : S w.drew → wpAnyZ P .any ops Q S z ops.size (Array.replicate ops.size false) a w.drew) : (Code.region id ops true).wp P Q a w :=
  wp_region_any hm (wpAny_of_Z _ _ _ _ (h hS))
end
end Go
