/- The walk over the law of statistics: small. -/
import Derived.Test.YtmhpbmobfdgkeaaHs07
import Derived.Test.YtmhpbmobfdgkeaaHs08
import Derived.Test.YtmhpbmobfdgkeaaHs09
namespace Go.Proofs.Ytmhpbmobfdgkeaa
open Go.RowKit
def smallR (rows : List PRow) : Prop := rows.length ≤ 60 ∧ ∀ r ∈ rows, r.l.length ≤ 40
set_option maxRecDepth 100000 in
set_option maxHeartbeats 4000000 in
theorem small_any (rows : List PRow) (hl : rows.length ≤ 140737488355328) (A : Option Addr) (c : Nat) (w : World) (hr : RowsR w A c rows) :
    Calls Try.prog 6 #[.slice A rows.length c] w (Says (smallR rows) w) := by
  have HR := Lib.hid hr
  have HY := Lib.hid (fun (h : smallR rows) w' hb (e : Ending) he => says_yes (w := w) (w' := w') (e := e) h he hb)
  have HN := Lib.hid (fun (h : ¬ smallR rows) w' hb (e : Ending) he => says_no (w := w) (w' := w') (e := e) h he hb)
  have HD := Lib.hid (show smallR rows ↔ rows.length ≤ 60 ∧ ∀ r ∈ rows, r.l.length ≤ 40 from Iff.rfl)
  generalize smallR rows = P at HY HN HD ⊢
  generalize Says P w = Q at HY HN ⊢
  clear hr
  by_cases h60 : 60 < rows.length
  · have HF := Lib.hid (HN.out (fun h => by have := (HD.out.1 h).1; omega) _ (Below.refl _ _))
    have h60i : (60 : Int) < (rows.length : Int) := by omega
    clear HY HN HD
    go_enter Try.func6, Try.ntmps6
    go_wp2_with fail
    exact HF.out _ (by simp)
  · have h60i : ¬ (60 : Int) < (rows.length : Int) := by omega
    go_enter Try.func6, Try.ntmps6
    go_wp2_with fail
    go_loopw [3] (fun i wr => ∃ k : Nat, k ≤ rows.length ∧ i = .int .i64 k ∧ (∀ j (hj : j < rows.length), j < k → rows[j].l.length ≤ 40) ∧ Below w.heap.size w wr) (fun i _ => rows.length - (intOf i).toNat)
    case atStart => exact ⟨0, Nat.zero_le _, rfl, fun _ _ h => absurd h (by omega), Below.refl _ _⟩
    case round =>
      obtain ⟨k, hk, rfl, hall, hbw⟩ := hrel
      have HA := Lib.hid hall
      have HBW := Lib.hid hbw
      clear hall hbw
      have hk0 : (0 : Int) ≤ (k : Int) := by omega
      by_cases hlt : k < rows.length
      · obtain ⟨b, off, rfl, hca, hbl, hcell⟩ := read_at rowC_len (HR.out.rd.below HBW.out) hlt
        have hki : (k : Int) < (rows.length : Int) := by omega
        have hwk : IntKind.i64.wrap ((k : Int) + 1) = (k : Int) + 1 := IntWalk.i64_in _ (by omega)
        have HB := Lib.hid (show ¬ rows[k].l.length ≤ 40 → ¬ P from fun h hP => h ((HD.out.1 hP).2 _ (List.getElem_mem hlt)))
        have HG := Lib.hid (show rows[k].l.length ≤ 40 → ∀ j (hj : j < rows.length), j < k + 1 → rows[j].l.length ≤ 40 from fun h j hj hjk => by
          rcases Nat.lt_or_eq_of_le (Nat.le_of_lt_succ hjk) with h5 | h5
          · exact HA.out j hj h5
          · subst h5; exact h)
        generalize rows[k] = r at hcell HB HG
        obtain ⟨rl, rA, rc⟩ := r
        simp only at HB HG
        have hc0 : wr.cell? ⟨b, off + k, none⟩ = some (.slice rA rl.length rc) := by simpa using hcell 0 _ rfl
        clear hcell hca HA
        by_cases h4 : rl.length ≤ 40
        · have HF := Lib.hid (HG.out h4)
          have h4i : ¬ (40 : Int) < (rl.length : Int) := by omega
          clear HB HG HD HY HN
          go_wp2_with fail
          go_roundw
          case rel => exact ⟨k + 1, by omega, by go_num, HF.out, HBW.out⟩
          case measure => simp [intOf]; omega
        · have HF := Lib.hid (HN.out (HB.out h4) _ HBW.out)
          have h4i : (40 : Int) < (rl.length : Int) := by omega
          clear HB HG HD HY HN
          go_wp2_with fail
          exact HF.out _ (by simp)
      · have HF := Lib.hid (HY.out (HD.out.2 ⟨by omega, fun r hr => by
          obtain ⟨j, hj, rfl⟩ := List.getElem_of_mem hr
          exact HA.out j hj (by omega)⟩) _ HBW.out)
        clear HD HY HN HA
        go_wp2_with fail
        exact HF.out _ (by simp)
end Go.Proofs.Ytmhpbmobfdgkeaa
/- The walk over the law of statistics: StatOf. -/
namespace Go.Proofs.Ytmhpbmobfdgkeaa
open Go.RowKit
theorem colB_of {l : List Sp.Val} (h : ∀ v ∈ l, ValB v) : ColB (Sp.colS l) := by
  have hO : ∀ v ∈ Sp.others l, ValB v := fun v hv => h v (Sp.others_mem hv).1
  have hc := Sp.cnt_all _ (Sp.others_up l)
  unfold Sp.colS
  refine ⟨fun v hv => ?_, fun o ho => ?_, ?_, ?_⟩
  · by_cases h0 : 0 < (Sp.others l).length
    · obtain ⟨i, hi, rfl⟩ := List.getElem_of_mem hv
      obtain ⟨a, ha, e, _⟩ := Sp.ends_at h0 i hi
      have e2 : (Sp.endsV (Sp.others l))[i] = (Sp.others l).getD a Sp.nullV := e
      rw [e2]
      exact hO _ (Sp.getD_mem ha)
    · have e : Sp.endsV (Sp.others l) = [] := by unfold Sp.endsV; rw [if_pos (by omega)]
      have hv2 : v ∈ Sp.endsV (Sp.others l) := hv
      rw [e] at hv2
      cases hv2
  · have h1 : o ∈ (Sp.sortO Sp.ordO (Sp.oftF (Sp.cntV (Sp.others l)))).take 4 := ho
    have h2 := (Sp.sort_perm Sp.ordO _).mem_iff.1 (List.mem_of_mem_take h1)
    exact hO _ (hc.mem o (List.mem_filter.1 h2).1)
  · show (Sp.endsV (Sp.others l)).length ≤ _
    by_cases h0 : 0 < (Sp.others l).length
    · rw [Sp.endsV_len h0]; omega
    · have e : Sp.endsV (Sp.others l) = [] := by unfold Sp.endsV; rw [if_pos (by omega)]
      rw [e]; exact Nat.zero_le _
  · show ((Sp.sortO Sp.ordO (Sp.oftF (Sp.cntV (Sp.others l)))).take 4).length ≤ _
    rw [List.length_take]
    omega
theorem statB_of {p : PStat} {t : ByteArray} {rows : List PRow} {width pages : Int} (hp : p.plain = Sp.statOf t (rows.map (·.l)) width pages) (hrv : ∀ r ∈ rows, ∀ v ∈ r.l, ValB v) : StatB p := by
  have hc : p.cols.map (·.c) = (List.range (Sp.widthS width)).map (fun i => Sp.colS (Sp.colAt (rows.map (·.l)) i)) := congrArg Sp.StatS.cols hp
  have hv : ∀ r ∈ rows.map (·.l), ∀ v ∈ r, ValB v := fun r hr v hv => by
    obtain ⟨q, hq, rfl⟩ := List.mem_map.1 hr
    exact hrv q hq v hv
  refine ⟨fun c h => ?_, ?_⟩
  · have h1 : c.c ∈ p.cols.map (·.c) := List.mem_map.2 ⟨c, h, rfl⟩
    rw [hc] at h1
    obtain ⟨i, _, e⟩ := List.mem_map.1 h1
    rw [← e]
    exact colB_of (colAt_valB hv i)
  · have h1 := congrArg List.length hc
    rw [List.length_map, List.length_map, List.length_range] at h1
    rw [h1]
    unfold Sp.widthS
    omega
set_option maxRecDepth 100000 in
set_option maxHeartbeats 4000000 in
theorem lawOf_any (t : ByteArray) (rows : List PRow) (hl : rows.length ≤ 140737488355328) (hrl : ∀ r ∈ rows, r.l.length ≤ 140737488355328) (hrv : ∀ r ∈ rows, ∀ v ∈ r.l, ValB v) (width pages : Int) (hwd : -9223372036854775808 ≤ width ∧ width ≤ 9223372036854775807) (A : Option Addr) (c : Nat) (w : World) (hr : RowsR w A c rows) :
    Calls Try.prog 3 #[.string t, .slice A rows.length c, .int .i64 width, .int .i64 pages] w (fun e w' => e = .returned (.bool true) ∧ Below w.heap.size w w') := by
  have HAW := Lib.hid (fun W => awake_any W)
  have HSL := Lib.hid (small_any rows hl A c w hr)
  by_cases hs : smallR rows
  · have h60 : rows.length ≤ 1000 := by have := hs.1; omega
    have HOF := Lib.hid (fun W hb => Of_any t rows h60 hrl width pages hwd A c W (hr.below hb))
    have HRO := Lib.hid (fun W hb => rOf_any t rows h60 hrl hrv width pages hwd A c W (hr.below hb))
    have HS := Lib.hid hs
    have HSA := Lib.hid (fun (p q : PStat) (hp : p.plain = Sp.statOf t (rows.map (·.l)) width pages) (hq : q.plain = Sp.statOf t (rows.map (·.l)) width pages) => same_any p q (hp.trans hq.symm) (statB_of hp hrv))
    generalize Sp.statOf t (rows.map (·.l)) width pages = st at HOF HRO HSA
    clear hr hrl hrv hs
    go_enter Try.func3, Try.ntmps3
    go_wp2_with (first
      | (go_at_call 6; (with_reducible refine HSL.out.mono ?_); rintro e w1 ⟨q, rfl, hq, hb1⟩; obtain rfl := q_true hq HS.out)
      | (go_at_call 7; (with_reducible refine (HAW.out _).mono ?_); rintro e w2 ⟨rfl, hb2⟩; have hb02 := joinB hb1 hb2)
      | (go_at_call 9; (with_reducible refine (HOF.out _ hb02).mono ?_); rintro e w3 ⟨p, rfl, hp, hpr, hb3⟩; have hb03 := joinB hb02 hb3)
      | (go_at_call 10; (with_reducible refine (HRO.out _ hb03).mono ?_); rintro e w4 ⟨p2, rfl, hp2, hpr2, hb4⟩; have hb04 := joinB hb03 hb4)
      | (go_at_call 8; (with_reducible refine (HSA.out p p2 hp hp2 _ (hpr.below hb4) hpr2).mono ?_); rintro e w5 ⟨rfl, hb5⟩; have hb05 := joinB hb04 hb5))
    go_ret
    exact ⟨by simp, hb05⟩
  · have HS := Lib.hid hs
    clear hr hrl hrv hs
    go_enter Try.func3, Try.ntmps3
    go_wp2_with (first
      | (go_at_call 6; (with_reducible refine HSL.out.mono ?_); rintro e w1 ⟨q, rfl, hq, hb1⟩; obtain rfl := q_false hq HS.out)
      | (go_at_call 7; (with_reducible refine (HAW.out _).mono ?_); rintro e w2 ⟨rfl, hb2⟩; have hb02 := joinB hb1 hb2))
    go_ret
    exact ⟨by simp, hb02⟩
end Go.Proofs.Ytmhpbmobfdgkeaa
