/- The walk over the law of statistics: StatMay. -/
import Derived.Test.YtmhpbmobfdgkeaaHm08
namespace Go.Proofs.Ytmhpbmobfdgkeaa
open Go.RowKit
theorem info_ro : (Try.prog.info? 33).map (fun i => (i.zero, i.size, i.bytes)) = some (some (.slice none 0 0), 1, 24) := by kernel_rfl
theorem rowC_all (l : List PRow) : ∀ u ∈ l.flatMap rowC, u.oneCell' = true := by
  intro u hu
  obtain ⟨v, _, h⟩ := List.mem_flatMap.1 hu
  rw [List.mem_singleton.1 h]
  rfl
theorem may_drop {w : World} {b off c : Nat} {l : List PRow} (h : Reads w (some ⟨b, off, none⟩) c l.length (l.flatMap rowC)) (j : Nat) (hj : j ≤ l.length) (hc : l.length ≤ c) : Reads w (if c = j then (some ⟨b, off, none⟩ : Option Addr) else some ⟨b, off + j, none⟩) (c - j) (l.length - j) ((l.drop j).flatMap rowC) := fun h0 => by
  obtain ⟨b', off', e, h1, h2, h3⟩ := h (by omega)
  injection e with e
  injection e with e1 e2
  subst e1 e2
  refine ⟨b, off + j, by rw [if_neg (by omega)], by omega, h2, fun t v ht => ?_⟩
  have h4 : l.flatMap rowC = (l.take j).flatMap rowC ++ (l.drop j).flatMap rowC := by rw [← List.flatMap_append, List.take_append_drop]
  have h5 : ((l.take j).flatMap rowC).length = j := by rw [flat_len rowC_len, List.length_take, Nat.min_eq_left hj, Nat.mul_one]
  have h6 := h3 (j + t) v (by rw [h4, List.getElem?_append_right (by omega), h5, Nat.add_sub_cancel_left]; exact ht)
  rwa [← Nat.add_assoc] at h6
/-- How many of the first n rows have no value at place i; how many one below e. -/
def nulN (L : List (List Sp.Val)) (i n : Nat) : Nat := ((L.take n).filter (fun r => !Sp.isV r i)).length
def leaN (L : List (List Sp.Val)) (i : Nat) (e : Sp.Val) (n : Nat) : Nat := ((L.take n).filter (fun r => Sp.isV r i && decide (Sp.ordV (r.getD i Sp.nullV) e < 0))).length
theorem nul_step (L : List (List Sp.Val)) (i n : Nat) (hn : n < L.length) : (Sp.isV L[n] i = true → nulN L i (n + 1) = nulN L i n) ∧ (Sp.isV L[n] i = false → nulN L i (n + 1) = nulN L i n + 1) := by
  unfold nulN
  rw [Sp.take_snoc L n hn, List.filter_append, List.length_append]
  exact ⟨fun h => by rw [List.filter_cons_of_neg (by simp [h])]; simp, fun h => by rw [List.filter_cons_of_pos (by simp [h])]; simp⟩
theorem lea_step (L : List (List Sp.Val)) (i : Nat) (e : Sp.Val) (n : Nat) (hn : n < L.length) : (Sp.isV L[n] i = true → Sp.ordV (L[n].getD i Sp.nullV) e < 0 → leaN L i e (n + 1) = leaN L i e n + 1) ∧ (Sp.isV L[n] i = true → ¬ Sp.ordV (L[n].getD i Sp.nullV) e < 0 → leaN L i e (n + 1) = leaN L i e n) ∧ (Sp.isV L[n] i = false → leaN L i e (n + 1) = leaN L i e n) := by
  unfold leaN
  rw [Sp.take_snoc L n hn, List.filter_append, List.length_append]
  exact ⟨fun h k => by rw [List.filter_cons_of_pos (by simp only [h, Bool.true_and, decide_eq_true_eq]; exact k)]; simp, fun h k => by rw [List.filter_cons_of_neg (by simp only [h, Bool.true_and, decide_eq_true_eq]; exact k)]; simp, fun h => by rw [List.filter_cons_of_neg (by simp [h])]; simp⟩
theorem nul_le (L : List (List Sp.Val)) (i n : Nat) : nulN L i n ≤ n := Nat.le_trans (List.length_filter_le _ _) (by rw [List.length_take]; omega)
theorem lea_le (L : List (List Sp.Val)) (i : Nat) (e : Sp.Val) (n : Nat) : leaN L i e n ≤ n := Nat.le_trans (List.length_filter_le _ _) (by rw [List.length_take]; omega)
/-- What the round over one column needs to know of it. -/
structure ColMay (L : List (List Sp.Val)) (i : Nat) (nu : Int) (es : List Sp.Val) : Prop where
  nu : nu = (nulN L i L.length : Int)
  lea : (leaN L i (es.getD 0 Sp.nullV) L.length : Int) ≤ (L.length : Int) / 8
  last : ∀ r ∈ L, Sp.isV r i = true → es.length = 8 ∧ Sp.ordV (r.getD i Sp.nullV) (es.getD 7 Sp.nullV) ≤ 0
theorem colMay (L : List (List Sp.Val)) (i : Nat) : ColMay L i (Sp.colS (Sp.colAt L i)).nulls (Sp.colS (Sp.colAt L i)).ends :=
  ⟨by unfold nulN; rw [List.take_length]; exact Sp.nulls_count L i, by unfold leaN; rw [List.take_length]; exact Sp.least_count L i, fun r hr hk => Sp.ends_last hr hk⟩
/-- What the law needs to know of the statistics: p is stat.Of's answer over right rows. -/
structure MayS (L : List (List Sp.Val)) (W : Nat) (p : PStat) : Prop where
  rows : p.rows = (L.length : Int)
  cols : p.cols.length = W
  col : ∀ i (hi : i < p.cols.length), ColMay L i p.cols[i].c.nulls p.cols[i].c.ends
theorem mayS {L : List (List Sp.Val)} {width pages : Int} {t : ByteArray} {p : PStat} (hp : p.plain = Sp.statOf t L width pages) : MayS L (Sp.widthS width) p := by
  have hc : p.cols.map (·.c) = (List.range (Sp.widthS width)).map (fun i => Sp.colS (Sp.colAt L i)) := congrArg Sp.StatS.cols hp
  have hl := congrArg List.length hc
  rw [List.length_map, List.length_map, List.length_range] at hl
  refine ⟨congrArg Sp.StatS.rows hp, hl, fun i hi => ?_⟩
  have h1 : (p.cols.map (·.c))[i]? = ((List.range (Sp.widthS width)).map (fun i => Sp.colS (Sp.colAt L i)))[i]? := by rw [hc]
  rw [List.getElem?_map, List.getElem?_map, List.getElem?_eq_getElem hi, List.getElem?_range (by omega)] at h1
  simp only [Option.map_some, Option.some.injEq] at h1
  rw [h1]
  exact colMay L i
theorem null_kind {v : Sp.Val} (h : Sp.rightV v) (hk : v.kind = 0) : v = Sp.nullV := by
  rcases h with ⟨_, h2, h3⟩ | ⟨h1, _⟩ | ⟨h1, _⟩ | ⟨h1, _⟩
  · obtain ⟨a, b, ⟨⟨s⟩⟩⟩ := v
    simp only at hk h2
    have h4 : s.length = 0 := h3
    rw [List.length_eq_zero_iff] at h4
    subst hk h2 h4
    rfl
  all_goals omega
set_option maxRecDepth 100000 in
set_option maxHeartbeats 16000000 in
theorem lawMay_any (rows : List PRow) (hl : rows.length ≤ 140737488355328) (hrl : ∀ r ∈ rows, r.l.length ≤ 140737488355328) (hrv : ∀ r ∈ rows, ∀ v ∈ r.l, ValB v) (width turn : Int) (hwd : -9223372036854775808 ≤ width ∧ width ≤ 9223372036854775807) (_htn : -9223372036854775808 ≤ turn ∧ turn ≤ 9223372036854775807) (A : Option Addr) (c : Nat) (w : World) (hr : RowsR w A c rows) :
    Calls Try.prog 4 #[.slice A rows.length c, .int .i64 width, .int .i64 turn] w (fun e w' => e = .returned (.bool true) ∧ Below w.heap.size w w') := by
  have HAW := Lib.hid (fun W => awake_any W)
  have HSL := Lib.hid (small_any rows hl A c w hr)
  by_cases hs : smallR rows
  · have h60 : rows.length ≤ 60 := hs.1
    have HS := Lib.hid hs
    have HR := Lib.hid hr
    have HRL := Lib.hid (show ∀ r ∈ rows, r.l.length ≤ 40 from hs.2)
    have HRG := Lib.hid (show ∀ r ∈ rows, ∀ W, Below w.heap.size w W → Calls Try.prog 11 #[.slice r.A r.l.length r.c] W (Says (∀ v ∈ r.l, Sp.rightV v) W) from fun r h W hb => rights_any r.l (hrl r h) (hrv r h) r.A r.c W ((hr.row r h).below hb))
    have HOF := Lib.hid (show ∀ W, Below w.heap.size w W → _ from fun W hb => Of_any ⟨#[116]⟩ rows (by omega) hrl width 3 hwd A c W (hr.below hb))
    have HOF2 := Lib.hid (show ∀ (R : List PRow) (A2 : Option Addr) (c2 : Nat) W, R.Perm rows → R.length = rows.length → Reads W A2 c2 rows.length (R.flatMap rowC) → Below w.heap.size w W → Calls Try.prog 9 #[.string ⟨#[116]⟩, .slice A2 rows.length c2, .int .i64 width, .int .i64 3] W (fun e w' => ∃ p : PStat, e = .returned (.agg (statA p)) ∧ p.plain = Sp.statOf ⟨#[116]⟩ (rows.map (·.l)) width 3 ∧ PStatR w' p ∧ Below W.heap.size W w') from fun R A2 c2 W hp hn hrd hb => by
      have h1 := Of_any ⟨#[116]⟩ R (by omega) (fun r h => hrl r (hp.mem_iff.1 h)) width 3 hwd A2 c2 W ⟨by rw [hn]; exact hrd, fun r h => (hr.row r (hp.mem_iff.1 h)).below hb⟩
      rw [hn, Sp.stat_perm (hp.map (·.l))] at h1
      exact h1)
    have HSA := Lib.hid (fun (p q : PStat) (hp : p.plain = Sp.statOf ⟨#[116]⟩ (rows.map (·.l)) width 3) (hq : q.plain = Sp.statOf ⟨#[116]⟩ (rows.map (·.l)) width 3) => same_any p q (hp.trans hq.symm) (statB_of hp hrv))
    have HRI := Lib.hid (fun (p : PStat) (hp : p.plain = Sp.statOf ⟨#[116]⟩ (rows.map (·.l)) width 3) W hpr => sright_any p (statB_of hp hrv) W hpr)
    have HWI := Lib.hid (show max (0 : Int) (min width 16) = (Sp.widthS width : Int) from by unfold Sp.widthS; omega)
    have HW16 := Lib.hid (show Sp.widthS width ≤ 16 from by unfold Sp.widthS; omega)
    have HMS := Lib.hid (fun (p : PStat) (hp : p.plain = Sp.statOf ⟨#[116]⟩ (rows.map (·.l)) width 3) => mayS hp)
    have HSR := Lib.hid (fun (h : ∀ r ∈ rows.map (·.l), ∀ v ∈ r, Sp.rightV v) => Sp.stat_right h (by rw [List.length_map]; omega) ⟨#[116]⟩ width 3 (by omega))
    generalize Sp.statOf ⟨#[116]⟩ (rows.map (·.l)) width 3 = st at HOF HOF2 HSA HRI HMS HSR
    clear hr hrl hrv hs hl hwd
    go_enter Try.func4, Try.ntmps4
    go_wp2_with (go_at_call 6; (with_reducible refine HSL.out.mono ?_); rintro e w1 ⟨q, rfl, hq, hb1⟩; obtain rfl := q_true hq HS.out; clear hq; have HB1 := Lib.hid hb1; clear hb1)
    go_loopw [7] (fun i wr => ∃ k : Nat, k ≤ rows.length ∧ i = .int .i64 k ∧ (∀ j (hj : j < rows.length), j < k → ∀ v ∈ rows[j].l, Sp.rightV v) ∧ Below w.heap.size w wr) (fun i _ => rows.length - (intOf i).toNat)
    case atStart => exact ⟨0, Nat.zero_le _, rfl, fun _ _ h => absurd h (by omega), HB1.out⟩
    case round =>
      clear HB1 HSL
      obtain ⟨k, hk, rfl, hall, hbw⟩ := hrel
      have HALL := Lib.hid hall
      have HBW := Lib.hid hbw
      clear hall hbw
      have hk0 : (0 : Int) ≤ (k : Int) := by omega
      by_cases hlt : k < rows.length
      · obtain ⟨b, off, rfl, hca, hbl, hcell⟩ := read_at rowC_len (HR.out.rd.below HBW.out) hlt
        have hki : (k : Int) < (rows.length : Int) := by omega
        have hwk : IntKind.i64.wrap ((k : Int) + 1) = (k : Int) + 1 := IntWalk.i64_in _ (by omega)
        have HRK := Lib.hid (HRG.out rows[k] (List.getElem_mem hlt) wr HBW.out)
        have HG := Lib.hid (show (∀ v ∈ rows[k].l, Sp.rightV v) → ∀ j (hj : j < rows.length), j < k + 1 → ∀ v ∈ rows[j].l, Sp.rightV v from fun h j hj hjk => by
          rcases Nat.lt_or_eq_of_le (Nat.le_of_lt_succ hjk) with h5 | h5
          · exact HALL.out j hj h5
          · subst h5; exact h)
        generalize rows[k] = r at hcell HRK HG
        obtain ⟨rl, rA, rc⟩ := r
        simp only at HRK HG
        have hc0 : wr.cell? ⟨b, off + k, none⟩ = some (.slice rA rl.length rc) := by simpa using hcell 0 _ rfl
        clear hcell hca HALL HOF HOF2 HSA HRI HMS HSR HRG
        by_cases hg : ∀ v ∈ rl, Sp.rightV v
        · have HF := Lib.hid (HG.out hg)
          have HGG := Lib.hid hg
          clear HG hg
          go_wp2_with (go_at_call 11; (with_reducible refine HRK.out.mono ?_); rintro e w2 ⟨q, rfl, hq, hb2⟩; obtain rfl := q_true hq HGG.out; clear hq; have HB2 := Lib.hid (joinB HBW.out hb2); clear hb2)
          go_roundw
          case rel => exact ⟨k + 1, by omega, by go_num, HF.out, HB2.out⟩
          case measure => simp [intOf]; omega
        · have HGG := Lib.hid hg
          clear HG hg
          go_wp2_with (first | (go_at_call 11; (with_reducible refine HRK.out.mono ?_); rintro e w2 ⟨q, rfl, hq, hb2⟩; obtain rfl := q_false hq HGG.out; clear hq; have HB2 := Lib.hid (joinB HBW.out hb2); clear hb2) | (go_at_call 7; (with_reducible refine (HAW.out _).mono ?_); rintro e w3 ⟨rfl, hb3⟩; have HB3 := Lib.hid (joinB HB2.out hb3); clear hb3))
          go_ret
          exact ⟨by simp, HB3.out⟩
      · obtain rfl : k = rows.length := by omega
        have HRT := Lib.hid (show ∀ r ∈ rows, ∀ v ∈ r.l, Sp.rightV v from fun r hr => by
          obtain ⟨j, hj, rfl⟩ := List.getElem_of_mem hr
          exact HALL.out j hj hj)
        have HST := Lib.hid (HSR.out (fun r hr v hv => by
          obtain ⟨q, hq, rfl⟩ := List.mem_map.1 hr
          exact HRT.out q hq v hv))
        clear HALL HSR HRG
        go_upto_if 34 with fail
        go_cut [8] (fun v wc => ∃ k : Nat, k ≤ rows.length ∧ v = .int .i64 (k : Int) ∧ Below w.heap.size w wc)
        case first =>
          clear HOF HOF2 HSA HRI HMS HST HRT
          by_cases h0 : 0 < rows.length
          · have h0i : (0 : Int) < (rows.length : Int) := by omega
            have hne : ((rows.length : Int) == 0) = false := beq_eq_false_iff_ne.2 (by omega)
            have hne2 : ¬ rows.length = 0 := by omega
            obtain ⟨m, hm⟩ : ∃ m, m = Int.tmod turn (rows.length : Int) := ⟨_, rfl⟩
            have hm1 : -(rows.length : Int) < m ∧ m < (rows.length : Int) := by rw [hm]; exact ⟨Int.lt_tmod_of_pos turn h0i, Int.tmod_lt_of_pos turn h0i⟩
            have hmI : Int.tmod turn (rows.length : Int) = m := hm.symm
            have hw1 : IntKind.i64.wrap m = m := IntWalk.i64_in _ (by omega)
            have hw2 : IntKind.i64.wrap (m + (rows.length : Int)) = m + (rows.length : Int) := IntWalk.i64_in _ (by omega)
            obtain ⟨k, hk⟩ : ∃ k : Nat, (k : Int) = Int.tmod (m + (rows.length : Int)) (rows.length : Int) := ⟨(Int.tmod (m + (rows.length : Int)) (rows.length : Int)).toNat, Int.toNat_of_nonneg (Int.tmod_nonneg _ (by omega))⟩
            have hk2 : (k : Int) < (rows.length : Int) := by rw [hk]; exact Int.tmod_lt_of_pos _ h0i
            have hkI : Int.tmod (m + (rows.length : Int)) (rows.length : Int) = (k : Int) := hk.symm
            have hw3 : IntKind.i64.wrap (k : Int) = (k : Int) := IntWalk.i64_in _ (by omega)
            clear hm hk
            go_wp2_with fail
            go_meet
            case rel => exact ⟨k, by omega, by first | rfl | go_num, HBW.out⟩
          · have h0i : ¬ (0 : Int) < (rows.length : Int) := by omega
            go_wp2_with fail
            go_meet
            case rel => exact ⟨0, Nat.zero_le _, rfl, HBW.out⟩
        case rest =>
          obtain ⟨k, hkn, rfl, hbc⟩ := hcut
          obtain ⟨w3, rfl⟩ : ∃ wm : World, wm = wc := ⟨_, rfl⟩
          have HB3 := Lib.hid hbc
          clear hbc HBW
          go_upto_region 11 with fail
          go_cut [9] (fun v wc => ∃ OA oc, v = .slice OA rows.length oc ∧ Reads wc OA oc rows.length ((rows.drop k ++ rows.take k).flatMap rowC) ∧ Below w3.heap.size w3 wc)
          case first =>
            clear HOF HOF2 HSA HRI HMS HST HRT HRL
            obtain ⟨i0, hi0, hz0, hz1, hz2⟩ := info_parts info_ro
            have hki0 : (0 : Int) ≤ (k : Int) := by omega
            have hkni : (k : Int) ≤ (rows.length : Int) := by omega
            have hSn : Below w3.heap.size w3 w3.drew := (Below.refl _ w3).drew
            have hlen : (rows.drop k ++ rows.take k).length = rows.length := by rw [List.length_append, List.length_drop, List.length_take]; omega
            by_cases h0 : 0 < rows.length
            · obtain ⟨b, off, rfl, hca, hbl, hcell⟩ := read_at rowC_len (HR.out.rd.below HB3.out) h0
              have HD := Lib.hid (may_drop (HR.out.rd.below HB3.out) k hkn hca)
              obtain ⟨AD, hAD⟩ : ∃ AD, AD = (if c = k then (some ⟨b, off, none⟩ : Option Addr) else some ⟨b, off + k, none⟩) := ⟨_, rfl⟩
              rw [← hAD] at HD
              have HTK := Lib.hid (reads_take rowC_len (HR.out.rd.below HB3.out) k hkn)
              have hkc : (k : Int) ≤ (c : Int) := by omega
              have hnc : (rows.length : Int) ≤ (c : Int) := by omega
              clear hcell
              refine wp_region_held_drew (S := (fun u => Below w3.heap.size w3 u)) (by kernel_rfl) ?_ (fun hHeld => ?_)
              · exact hSn
              have hz9 : w3.heap.size ≤ w3.drew.heap.size := Nat.le_refl _
              generalize w3.drew = w9 at hSn hz9 ⊢
              refine tkW 1 (some 46) (v := ?_) rfl ?_ ?_
              rotate_left
              · intro u hSu; clear hSu; go_simp; (try with_reducible rfl)
              try simp only [Act.put, List.setIfInBounds_toArray, List.set_cons_zero, List.set_cons_succ]
              refine tkW 2 (some 47) (v := ?_) rfl ?_ ?_
              rotate_left
              · intro u hSu; clear hSu; go_simp; (try with_reducible rfl)
              try simp only [Act.put, List.setIfInBounds_toArray, List.set_cons_zero, List.set_cons_succ]
              refine tkW 3 (some 48) (v := ?_) rfl ?_ ?_
              rotate_left
              · intro u hSu; clear hSu; go_simp; (try with_reducible rfl)
              try simp only [Act.put, List.setIfInBounds_toArray, List.set_cons_zero, List.set_cons_succ]
              refine tkW 5 (some 50) (v := ?_) rfl ?_ ?_
              rotate_left
              · intro u hSu; clear hSu; go_simp; (try with_reducible rfl)
              try simp only [Act.put, List.setIfInBounds_toArray, List.set_cons_zero, List.set_cons_succ]
              refine tkW 6 (some 51) (v := ?_) rfl ?_ ?_
              rotate_left
              · intro u hSu; clear hSu; go_simp; (try with_reducible rfl)
              try simp only [Act.put, List.setIfInBounds_toArray, List.set_cons_zero, List.set_cons_succ]
              refine tkW 7 (some 52) (v := ?_) rfl ?_ ?_
              rotate_left
              · intro u hSu; clear hSu; go_simp; (try with_reducible rfl)
              try simp only [Act.put, List.setIfInBounds_toArray, List.set_cons_zero, List.set_cons_succ]
              refine rdH 0 (some 45) rfl (fun K hK => ?_)
              go_simp
              have hOb := ownEmpty w9 33 1
              have hAl := hSn.trans ((allocB w9 (.cells #[] 33)).mono hSn.size)
              clear hSn
              have hSn := hAl
              have hGz : w3.heap.size ≤ w9.heap.size := hz9
              refine hK.out _ _ ?_ (fun hHeld => ?_)
              · exact hSn
              clear hK K
              try simp only [Act.put, List.setIfInBounds_toArray, List.set_cons_zero, List.set_cons_succ]
              refine rdH 4 (some 49) rfl (fun K hK => ?_)
              try rw [← hAD]
              refine wantedIf (by rfl) ?_
              refine wp_appR _ (.tmp 45) (.tmp 48) 22 33 i0 (.slice none 0 0) 1 24 Try.underlying22 hi0 hz0 hz1 hz2 rfl (by omega) rfl w9.heap.size _ 0 [] rfl hOb AD (rows.length - k) (c - k) ((rows.drop k).flatMap rowC) rfl (HD.out.below hAl) (by rw [flat_len rowC_len, List.length_drop]) (rowC_all _) (by omega) (by omega) (allocB w9 (.cells #[] 33)).size ?_
              intro v5 w5 ho5 hg5 hb5
              rw [List.nil_append, Nat.zero_add] at ho5
              obtain ⟨A5, c5, rfl⟩ := ownLen ho5
              have hs5 : w9.heap.size ≤ w5.heap.size := (Nat.le_trans (allocB w9 (.cells #[] 33)).size hb5.size)
              have hSm := hSn.trans (hb5.mono hz9)
              clear hSn hAl hg5
              have hSn := hSm
              clear hSm
              refine hK.out _ _ ?_ (fun hHeld => ?_)
              · exact hSn
              clear hK K
              try simp only [Act.put, List.setIfInBounds_toArray, List.set_cons_zero, List.set_cons_succ]
              refine rdH 8 (some 53) rfl (fun K hK => ?_)
              refine wantedIf (by rfl) ?_
              refine wp_appR _ (.tmp 49) (.tmp 52) 22 33 i0 (.slice none 0 0) 1 24 Try.underlying22 hi0 hz0 hz1 hz2 rfl (by omega) rfl w9.heap.size _ (rows.length - k) ((rows.drop k).flatMap rowC) rfl ho5 (some ⟨b, off, none⟩) k c ((rows.take k).flatMap rowC) rfl (HTK.out.below hSn) (by rw [flat_len rowC_len, List.length_take, Nat.min_eq_left hkn]) (rowC_all _) (by omega) (by omega) hs5 ?_
              intro v7 w7 ho7 hg7 hb7
              obtain ⟨A7, c7, rfl⟩ := ownLen ho7
              have hSm := hSn.trans (hb7.mono hz9)
              clear hSn hg7
              have hSn := hSm
              clear hSm
              refine hK.out _ _ ?_ (fun hHeld => ?_)
              · exact hSn
              clear hK K
              try simp only [Act.put, List.setIfInBounds_toArray, List.set_cons_zero, List.set_cons_succ]
              refine tkW 9 (some 9) (v := ?_) rfl ?_ ?_
              rotate_left
              · intro u hSu; clear hSu; go_simp; (try with_reducible rfl)
              try simp only [Act.put, List.setIfInBounds_toArray, List.set_cons_zero, List.set_cons_succ]
              refine wpAnyH_done (by kernel_rfl) ?_ _
              clear hHeld
              go_wp2_with fail
              have HF := Lib.hid (show World.ownsRow w7 w9.heap.size 33 1 (.slice A7 rows.length c7) rows.length ((rows.drop k ++ rows.take k).flatMap rowC) from by
                rw [List.flatMap_append]
                have h1 : rows.length - k + k = rows.length := by omega
                rw [h1] at ho7
                exact ho7)
              go_meet
              case rel => exact ⟨A7, c7, rfl, own_reads HF.out, hSn⟩
            · obtain rfl : rows = [] := List.eq_nil_of_length_eq_zero (by omega)
              obtain rfl : k = 0 := by simpa using hkn
              cases A with
              | none =>
                refine wp_region_held_drew (S := (fun u => Below w3.heap.size w3 u)) (by kernel_rfl) ?_ (fun hHeld => ?_)
                · exact hSn
                have hz9 : w3.heap.size ≤ w3.drew.heap.size := Nat.le_refl _
                generalize w3.drew = w9 at hSn hz9 ⊢
                refine tkW 1 (some 46) (v := ?_) rfl ?_ ?_
                rotate_left
                · intro u hSu; clear hSu; go_simp; (try with_reducible rfl)
                try simp only [Act.put, List.setIfInBounds_toArray, List.set_cons_zero, List.set_cons_succ]
                refine tkW 2 (some 47) (v := ?_) rfl ?_ ?_
                rotate_left
                · intro u hSu; clear hSu; go_simp; (try with_reducible rfl)
                try simp only [Act.put, List.setIfInBounds_toArray, List.set_cons_zero, List.set_cons_succ]
                refine tkW 3 (some 48) (v := ?_) rfl ?_ ?_
                rotate_left
                · intro u hSu; clear hSu; go_simp; (try with_reducible rfl)
                try simp only [Act.put, List.setIfInBounds_toArray, List.set_cons_zero, List.set_cons_succ]
                refine tkW 5 (some 50) (v := ?_) rfl ?_ ?_
                rotate_left
                · intro u hSu; clear hSu; go_simp; (try with_reducible rfl)
                try simp only [Act.put, List.setIfInBounds_toArray, List.set_cons_zero, List.set_cons_succ]
                refine tkW 6 (some 51) (v := ?_) rfl ?_ ?_
                rotate_left
                · intro u hSu; clear hSu; go_simp; (try with_reducible rfl)
                try simp only [Act.put, List.setIfInBounds_toArray, List.set_cons_zero, List.set_cons_succ]
                refine tkW 7 (some 52) (v := ?_) rfl ?_ ?_
                rotate_left
                · intro u hSu; clear hSu; go_simp; (try with_reducible rfl)
                try simp only [Act.put, List.setIfInBounds_toArray, List.set_cons_zero, List.set_cons_succ]
                refine rdH 0 (some 45) rfl (fun K hK => ?_)
                go_simp
                have hOb := ownEmpty w9 33 1
                have hAl := hSn.trans ((allocB w9 (.cells #[] 33)).mono hSn.size)
                clear hSn
                have hSn := hAl
                have hGz : w3.heap.size ≤ w9.heap.size := hz9
                refine hK.out _ _ ?_ (fun hHeld => ?_)
                · exact hSn
                clear hK K
                try simp only [Act.put, List.setIfInBounds_toArray, List.set_cons_zero, List.set_cons_succ]
                refine rdH 4 (some 49) rfl (fun K hK => ?_)
                refine wantedIf (by rfl) ?_
                refine wp_appR _ (.tmp 45) (.tmp 48) 22 33 i0 (.slice none 0 0) 1 24 Try.underlying22 hi0 hz0 hz1 hz2 rfl (by omega) rfl w9.heap.size _ 0 [] rfl hOb _ 0 _ [] rfl (Reads.none_ _ _ _ _) (by simp) (by simp) (by omega) (by omega) (allocB w9 (.cells #[] 33)).size ?_
                intro v5 w5 ho5 hg5 hb5
                rw [List.nil_append, Nat.zero_add] at ho5
                obtain ⟨A5, c5, rfl⟩ := ownLen ho5
                have hs5 : w9.heap.size ≤ w5.heap.size := (Nat.le_trans (allocB w9 (.cells #[] 33)).size hb5.size)
                have hSm := hSn.trans (hb5.mono hz9)
                clear hSn hAl hg5
                have hSn := hSm
                clear hSm
                refine hK.out _ _ ?_ (fun hHeld => ?_)
                · exact hSn
                clear hK K
                try simp only [Act.put, List.setIfInBounds_toArray, List.set_cons_zero, List.set_cons_succ]
                refine rdH 8 (some 53) rfl (fun K hK => ?_)
                refine wantedIf (by rfl) ?_
                refine wp_appR _ (.tmp 49) (.tmp 52) 22 33 i0 (.slice none 0 0) 1 24 Try.underlying22 hi0 hz0 hz1 hz2 rfl (by omega) rfl w9.heap.size _ 0 [] rfl ho5 _ 0 _ [] rfl (Reads.none_ _ _ _ _) (by simp) (by simp) (by omega) (by omega) hs5 ?_
                intro v7 w7 ho7 hg7 hb7
                obtain ⟨A7, c7, rfl⟩ := ownLen ho7
                have hSm := hSn.trans (hb7.mono hz9)
                clear hSn hg7
                have hSn := hSm
                clear hSm
                refine hK.out _ _ ?_ (fun hHeld => ?_)
                · exact hSn
                clear hK K
                try simp only [Act.put, List.setIfInBounds_toArray, List.set_cons_zero, List.set_cons_succ]
                refine tkW 9 (some 9) (v := ?_) rfl ?_ ?_
                rotate_left
                · intro u hSu; clear hSu; go_simp; (try with_reducible rfl)
                try simp only [Act.put, List.setIfInBounds_toArray, List.set_cons_zero, List.set_cons_succ]
                refine wpAnyH_done (by kernel_rfl) ?_ _
                clear hHeld
                go_wp2_with fail
                go_meet
                case rel => exact ⟨A7, c7, rfl, Reads.none_ _ _ _ _, hSn⟩
              | some ad =>
                refine wp_region_held_drew (S := (fun u => Below w3.heap.size w3 u)) (by kernel_rfl) ?_ (fun hHeld => ?_)
                · exact hSn
                have hz9 : w3.heap.size ≤ w3.drew.heap.size := Nat.le_refl _
                generalize w3.drew = w9 at hSn hz9 ⊢
                refine tkW 1 (some 46) (v := ?_) rfl ?_ ?_
                rotate_left
                · intro u hSu; clear hSu; go_simp; (try with_reducible rfl)
                try simp only [Act.put, List.setIfInBounds_toArray, List.set_cons_zero, List.set_cons_succ]
                refine tkW 2 (some 47) (v := ?_) rfl ?_ ?_
                rotate_left
                · intro u hSu; clear hSu; go_simp; (try with_reducible rfl)
                try simp only [Act.put, List.setIfInBounds_toArray, List.set_cons_zero, List.set_cons_succ]
                refine tkW 3 (some 48) (v := ?_) rfl ?_ ?_
                rotate_left
                · intro u hSu; clear hSu; go_simp; (try with_reducible rfl)
                try simp only [Act.put, List.setIfInBounds_toArray, List.set_cons_zero, List.set_cons_succ]
                refine tkW 5 (some 50) (v := ?_) rfl ?_ ?_
                rotate_left
                · intro u hSu; clear hSu; go_simp; (try with_reducible rfl)
                try simp only [Act.put, List.setIfInBounds_toArray, List.set_cons_zero, List.set_cons_succ]
                refine tkW 6 (some 51) (v := ?_) rfl ?_ ?_
                rotate_left
                · intro u hSu; clear hSu; go_simp; (try with_reducible rfl)
                try simp only [Act.put, List.setIfInBounds_toArray, List.set_cons_zero, List.set_cons_succ]
                refine tkW 7 (some 52) (v := ?_) rfl ?_ ?_
                rotate_left
                · intro u hSu; clear hSu; go_simp; (try with_reducible rfl)
                try simp only [Act.put, List.setIfInBounds_toArray, List.set_cons_zero, List.set_cons_succ]
                refine rdH 0 (some 45) rfl (fun K hK => ?_)
                go_simp
                have hOb := ownEmpty w9 33 1
                have hAl := hSn.trans ((allocB w9 (.cells #[] 33)).mono hSn.size)
                clear hSn
                have hSn := hAl
                have hGz : w3.heap.size ≤ w9.heap.size := hz9
                refine hK.out _ _ ?_ (fun hHeld => ?_)
                · exact hSn
                clear hK K
                try simp only [Act.put, List.setIfInBounds_toArray, List.set_cons_zero, List.set_cons_succ]
                refine rdH 4 (some 49) rfl (fun K hK => ?_)
                refine wantedIf (by rfl) ?_
                refine wp_appR _ (.tmp 45) (.tmp 48) 22 33 i0 (.slice none 0 0) 1 24 Try.underlying22 hi0 hz0 hz1 hz2 rfl (by omega) rfl w9.heap.size _ 0 [] rfl hOb _ 0 _ [] rfl (Reads.none_ _ _ _ _) (by simp) (by simp) (by omega) (by omega) (allocB w9 (.cells #[] 33)).size ?_
                intro v5 w5 ho5 hg5 hb5
                rw [List.nil_append, Nat.zero_add] at ho5
                obtain ⟨A5, c5, rfl⟩ := ownLen ho5
                have hs5 : w9.heap.size ≤ w5.heap.size := (Nat.le_trans (allocB w9 (.cells #[] 33)).size hb5.size)
                have hSm := hSn.trans (hb5.mono hz9)
                clear hSn hAl hg5
                have hSn := hSm
                clear hSm
                refine hK.out _ _ ?_ (fun hHeld => ?_)
                · exact hSn
                clear hK K
                try simp only [Act.put, List.setIfInBounds_toArray, List.set_cons_zero, List.set_cons_succ]
                refine rdH 8 (some 53) rfl (fun K hK => ?_)
                refine wantedIf (by rfl) ?_
                refine wp_appR _ (.tmp 49) (.tmp 52) 22 33 i0 (.slice none 0 0) 1 24 Try.underlying22 hi0 hz0 hz1 hz2 rfl (by omega) rfl w9.heap.size _ 0 [] rfl ho5 _ 0 _ [] rfl (Reads.none_ _ _ _ _) (by simp) (by simp) (by omega) (by omega) hs5 ?_
                intro v7 w7 ho7 hg7 hb7
                obtain ⟨A7, c7, rfl⟩ := ownLen ho7
                have hSm := hSn.trans (hb7.mono hz9)
                clear hSn hg7
                have hSn := hSm
                clear hSm
                refine hK.out _ _ ?_ (fun hHeld => ?_)
                · exact hSn
                clear hK K
                try simp only [Act.put, List.setIfInBounds_toArray, List.set_cons_zero, List.set_cons_succ]
                refine tkW 9 (some 9) (v := ?_) rfl ?_ ?_
                rotate_left
                · intro u hSu; clear hSu; go_simp; (try with_reducible rfl)
                try simp only [Act.put, List.setIfInBounds_toArray, List.set_cons_zero, List.set_cons_succ]
                refine wpAnyH_done (by kernel_rfl) ?_ _
                clear hHeld
                go_wp2_with fail
                go_meet
                case rel => exact ⟨A7, c7, rfl, Reads.none_ _ _ _ _, hSn⟩
          case rest =>
            obtain ⟨OA, oc, rfl, hrd, hbo⟩ := hcut
            obtain ⟨w4, rfl⟩ : ∃ wm : World, wm = wc := ⟨_, rfl⟩
            have HRD := Lib.hid hrd
            have HB4 := Lib.hid (HB3.out.trans (hbo.mono HB3.out.size))
            have HPM := Lib.hid (Sp.rot_perm rows k)
            have HPL := Lib.hid (show (rows.drop k ++ rows.take k).length = rows.length from (Sp.rot_perm rows k).length_eq)
            generalize rows.drop k ++ rows.take k = R at HRD HPM HPL
            clear hbo hrd HB3 hkn
            go_upto_region 13 with (first
              | (go_at_call 9; (with_reducible refine (HOF.out _ HB4.out).mono ?_); rintro e w5 ⟨p, rfl, hp, hpr, hb5⟩; have HP := Lib.hid hp; have HPR := Lib.hid hpr; have HB5 := Lib.hid hb5; clear hp hpr hb5; have HM := Lib.hid (HMS.out p HP.out); have HRP := Lib.hid (HRI.out p HP.out); have HSP := Lib.hid (fun q hq => HSA.out q p hq HP.out); have HRS := Lib.hid (show Sp.rightS p.plain from by rw [HP.out]; exact HST.out); generalize p.plain = pl at HRP HRS; obtain ⟨pt, pr, pp, pcs, pA, pc⟩ := p; obtain rfl : pr = (rows.length : Int) := (by have h := HM.out.rows; rw [List.length_map] at h; exact h); dsimp only [statA]; (try simp only [statA]))
              | (with_reducible refine wpList_store_new rfl 28 (.tmp 10) (.tmp 56) rfl #[.string pt, .int .i64 (rows.length : Int), .int .i64 pp, .slice pA pcs.length pc] _ _ rfl (by kernel_rfl) (by kernel_rfl) (by kernel_rfl) (by kernel_rfl) ?_))
            have HG := Lib.hid (heap_alloc_new w5 (.cells #[.string pt, .int .i64 (rows.length : Int), .int .i64 pp, .slice pA pcs.length pc] 28))
            have HA6 := Lib.hid (allocB w5 (.cells #[.string pt, .int .i64 (rows.length : Int), .int .i64 pp, .slice pA pcs.length pc] 28))
            obtain ⟨gx, hgx⟩ : ∃ g, g = w5.heap.size := ⟨_, rfl⟩
            obtain ⟨w6, hw6⟩ : ∃ W, W = w5.alloc (.cells #[.string pt, .int .i64 (rows.length : Int), .int .i64 pp, .slice pA pcs.length pc] 28) := ⟨_, rfl⟩
            rw [← hgx, ← hw6] at HG
            rw [← hw6] at HA6
            rw [← hw6, ← hgx]
            have HB6 := Lib.hid (HB4.out.trans ((HB5.out.trans (HA6.out.mono HB5.out.size)).mono HB4.out.size))
            have HR6 := Lib.hid (HRD.out.below (HB5.out.trans (HA6.out.mono HB5.out.size)))
            have HP6 := Lib.hid (HPR.out.below HA6.out)
            have HCL := Lib.hid (show pcs.length = Sp.widthS width from HM.out.cols)
            have HCM := Lib.hid (show ∀ i (hi : i < pcs.length), ColMay (rows.map (·.l)) i pcs[i].c.nulls pcs[i].c.ends from HM.out.col)
            have HSP2 := Lib.hid (show ∀ (q : PStat), q.plain = st → ∀ W, PStatR W q → PStatR W ⟨pt, (rows.length : Int), pp, pcs, pA, pc⟩ → Calls Try.prog 8 #[.agg (statA q), .agg #[.string pt, .int .i64 (rows.length : Int), .int .i64 pp, .slice pA pcs.length pc]] W (fun e w' => e = .returned (.bool true) ∧ Below W.heap.size W w') from HSP.out)
            have HRP2 := Lib.hid (show ∀ W, PStatR W ⟨pt, (rows.length : Int), pp, pcs, pA, pc⟩ → Calls Try.prog 12 #[.agg #[.string pt, .int .i64 (rows.length : Int), .int .i64 pp, .slice pA pcs.length pc]] W (Says (Sp.rightS pl) W) from HRP.out)
            clear hw6 hgx HB4 HB5 HA6 HPR HRD HM HRP HSP HP HOF HMS HST HSA HRI
            try simp only [Act.put]
            go_cut [87] (fun v wc => v = .bool false ∧ Below w6.heap.size w6 wc)
            case first =>
              have hwi := HWI.out
              have hcl : (pcs.length : Int) = (Sp.widthS width : Int) := by rw [HCL.out]
              have hbnn : ((rows.length : Int) != (rows.length : Int)) = false := bne_self_eq_false _
              generalize (Sp.widthS width : Int) = WI at hwi hcl
              have hbn2 : ((pcs.length : Int) != WI) = false := by rw [hcl]; exact bne_self_eq_false _
              clear HRL HCM HRT HW16 HCL hcl
              have hSn : Below w6.heap.size w6 w6.drew := (Below.refl _ w6).drew
              refine wp_region_held_drew (S := (fun u => Below w6.heap.size w6 u)) (by kernel_rfl) ?_ (fun hHeld => ?_)
              · exact hSn
              generalize w6.drew = w9 at hSn ⊢
              refine rdH 0 (some 57) rfl (fun K hK => ?_)
              go_simp
              (with_reducible refine (HAW.out _).mono ?_); rintro e u1 ⟨rfl, hb1⟩; have hSm := joinB hSn hb1; clear hSn hb1; have hSn := hSm; clear hSm
              refine hK.out _ _ ?_ (fun hHeld => ?_)
              · exact hSn
              clear hK K
              try simp only [Act.put, List.setIfInBounds_toArray, List.set_cons_zero, List.set_cons_succ]
              refine tkW 1 (some 58) (v := ?_) rfl ?_ ?_
              rotate_left
              · intro u hSu; have hSv := blkCell (blkOld HG.out hSu); clear hSu; go_simp; (try with_reducible rfl)
              try simp only [Act.put, List.setIfInBounds_toArray, List.set_cons_zero, List.set_cons_succ]
              refine tkW 2 (some 59) (v := ?_) rfl ?_ ?_
              rotate_left
              · intro u hSu; have hSv := blkCell (blkOld HG.out hSu); clear hSu; go_simp; (try with_reducible rfl)
              try simp only [Act.put, List.setIfInBounds_toArray, List.set_cons_zero, List.set_cons_succ]
              refine tkV 3 (some 60) (v := .agg #[.string pt, .int .i64 (rows.length : Int), .int .i64 pp, .slice pA pcs.length pc]) rfl (yieldsIf_load_mid (by rfl) 28 (.tmp 10) rfl gx 0 (by rfl) #[.string pt, .int .i64 (rows.length : Int), .int .i64 pp, .slice pA pcs.length pc].toList _ (fun u hu => (by intro j v hj; rw [Nat.zero_add, blkCell (blkOld HG.out hu)]; simpa using hj)) Try.underlying28 (by kernel_rfl) (by kernel_rfl)) ?_
              try simp only [Act.put, List.setIfInBounds_toArray, List.set_cons_zero, List.set_cons_succ]
              refine rdH 4 (some 61) rfl (fun K hK => ?_)
              go_simp
              (with_reducible refine (HRP2.out _ (HP6.out.below hSn)).mono ?_); rintro e u2 ⟨q1, rfl, hq1, hb3⟩; obtain rfl := q_true hq1 HRS.out; clear hq1; have hSm := joinB hSn hb3; clear hSn hb3; have hSn := hSm; clear hSm
              refine hK.out _ _ ?_ (fun hHeld => ?_)
              · exact hSn
              clear hK K
              try simp only [Act.put, List.setIfInBounds_toArray, List.set_cons_zero, List.set_cons_succ]
              refine tkW 5 (some 62) (v := ?_) rfl ?_ ?_
              rotate_left
              · intro u hSu; have hSv := blkCell (blkOld HG.out hSu); clear hSu; go_simp; (try with_reducible rfl)
              try simp only [Act.put, List.setIfInBounds_toArray, List.set_cons_zero, List.set_cons_succ]
              refine tkW 6 (some 63) (v := ?_) rfl ?_ ?_
              rotate_left
              · intro u hSu; have hSv := blkCell (blkOld HG.out hSu); clear hSu; go_simp; (try with_reducible rfl)
              try simp only [Act.put, List.setIfInBounds_toArray, List.set_cons_zero, List.set_cons_succ]
              refine tkW 7 (some 64) (v := ?_) rfl ?_ ?_
              rotate_left
              · intro u hSu; have hSv := blkCell (blkOld HG.out hSu); clear hSu; go_simp; (try with_reducible rfl)
              try simp only [Act.put, List.setIfInBounds_toArray, List.set_cons_zero, List.set_cons_succ]
              refine tkW 8 (some 65) (v := ?_) rfl ?_ ?_
              rotate_left
              · intro u hSu; have hSv := blkCell (blkOld HG.out hSu); clear hSu; go_simp; (try with_reducible rfl)
              try simp only [Act.put, List.setIfInBounds_toArray, List.set_cons_zero, List.set_cons_succ]
              refine tkW 9 (some 66) (v := ?_) rfl ?_ ?_
              rotate_left
              · intro u hSu; have hSv := blkCell (blkOld HG.out hSu); clear hSu; go_simp; (try with_reducible rfl)
              try simp only [Act.put, List.setIfInBounds_toArray, List.set_cons_zero, List.set_cons_succ]
              refine tkV 11 (some 68) (v := .agg #[.string pt, .int .i64 (rows.length : Int), .int .i64 pp, .slice pA pcs.length pc]) rfl (yieldsIf_load_mid (by rfl) 28 (.tmp 10) rfl gx 0 (by rfl) #[.string pt, .int .i64 (rows.length : Int), .int .i64 pp, .slice pA pcs.length pc].toList _ (fun u hu => (by intro j v hj; rw [Nat.zero_add, blkCell (blkOld HG.out hu)]; simpa using hj)) Try.underlying28 (by kernel_rfl) (by kernel_rfl)) ?_
              try simp only [Act.put, List.setIfInBounds_toArray, List.set_cons_zero, List.set_cons_succ]
              refine rdH 10 (some 67) rfl (fun K hK => ?_)
              go_simp
              (with_reducible refine (HOF2.out R _ _ _ HPM.out HPL.out (HR6.out.below hSn) (joinB HB6.out hSn)).mono ?_); rintro e u3 ⟨q, rfl, hq, hqr, hb4⟩; have hSm := joinB hSn hb4; clear hSn hb4; have hSn := hSm; clear hSm
              refine hK.out _ _ ?_ (fun hHeld => ?_)
              · exact hSn
              clear hK K
              try simp only [Act.put, List.setIfInBounds_toArray, List.set_cons_zero, List.set_cons_succ]
              refine rdH 12 (some 69) rfl (fun K hK => ?_)
              go_simp
              (with_reducible refine (HSP2.out q hq _ hqr (HP6.out.below hSn)).mono ?_); rintro e u4 ⟨rfl, hb5⟩; have hSm := joinB hSn hb5; clear hSn hb5; have hSn := hSm; clear hSm
              refine hK.out _ _ ?_ (fun hHeld => ?_)
              · exact hSn
              clear hK K
              try simp only [Act.put, List.setIfInBounds_toArray, List.set_cons_zero, List.set_cons_succ]
              refine tkW 13 (some 70) (v := ?_) rfl ?_ ?_
              rotate_left
              · intro u hSu; have hSv := blkCell (blkOld HG.out hSu); clear hSu; go_simp; (try with_reducible rfl)
              try simp only [Act.put, List.setIfInBounds_toArray, List.set_cons_zero, List.set_cons_succ]
              refine tkW 14 (some 71) (v := ?_) rfl ?_ ?_
              rotate_left
              · intro u hSu; have hSv := blkCell (blkOld HG.out hSu); clear hSu; go_simp; (try with_reducible rfl)
              try simp only [Act.put, List.setIfInBounds_toArray, List.set_cons_zero, List.set_cons_succ]
              refine tkW 15 (some 72) (v := ?_) rfl ?_ ?_
              rotate_left
              · intro u hSu; have hSv := blkCell (blkOld HG.out hSu); clear hSu; go_simp; (try with_reducible rfl)
              try simp only [Act.put, List.setIfInBounds_toArray, List.set_cons_zero, List.set_cons_succ]
              refine tkW 16 (some 73) (v := ?_) rfl ?_ ?_
              rotate_left
              · intro u hSu; have hSv := blkCell (blkOld HG.out hSu); clear hSu; go_simp; (try with_reducible rfl)
              try simp only [Act.put, List.setIfInBounds_toArray, List.set_cons_zero, List.set_cons_succ]
              refine tkW 17 (some 74) (v := ?_) rfl ?_ ?_
              rotate_left
              · intro u hSu; have hSv := blkCell (blkOld HG.out hSu); clear hSu; go_simp; (try with_reducible rfl)
              try simp only [Act.put, List.setIfInBounds_toArray, List.set_cons_zero, List.set_cons_succ]
              refine tkW 18 (some 75) (v := ?_) rfl ?_ ?_
              rotate_left
              · intro u hSu; have hSv := blkCell (blkOld HG.out hSu); clear hSu; go_simp; (try with_reducible rfl)
              try simp only [Act.put, List.setIfInBounds_toArray, List.set_cons_zero, List.set_cons_succ]
              refine tkW 19 (some 76) (v := ?_) rfl ?_ ?_
              rotate_left
              · intro u hSu; have hSv := blkCell (blkOld HG.out hSu); clear hSu; go_simp; (try with_reducible rfl)
              try simp only [Act.put, List.setIfInBounds_toArray, List.set_cons_zero, List.set_cons_succ]
              refine tkW 20 (some 77) (v := ?_) rfl ?_ ?_
              rotate_left
              · intro u hSu; have hSv := blkCell (blkOld HG.out hSu); clear hSu; go_simp; (try with_reducible rfl)
              try simp only [Act.put, List.setIfInBounds_toArray, List.set_cons_zero, List.set_cons_succ]
              refine tkW 21 (some 78) (v := ?_) rfl ?_ ?_
              rotate_left
              · intro u hSu; have hSv := blkCell (blkOld HG.out hSu); clear hSu; go_simp; (try with_reducible rfl)
              try simp only [Act.put, List.setIfInBounds_toArray, List.set_cons_zero, List.set_cons_succ]
              refine tkW 22 (some 79) (v := ?_) rfl ?_ ?_
              rotate_left
              · intro u hSu; have hSv := blkCell (blkOld HG.out hSu); clear hSu; go_simp; (try with_reducible rfl)
              try simp only [Act.put, List.setIfInBounds_toArray, List.set_cons_zero, List.set_cons_succ]
              refine tkW 23 (some 80) (v := ?_) rfl ?_ ?_
              rotate_left
              · intro u hSu; have hSv := blkCell (blkOld HG.out hSu); clear hSu; go_simp; (try with_reducible rfl)
              try simp only [Act.put, List.setIfInBounds_toArray, List.set_cons_zero, List.set_cons_succ]
              refine tkW 24 (some 81) (v := ?_) rfl ?_ ?_
              rotate_left
              · intro u hSu; have hSv := blkCell (blkOld HG.out hSu); clear hSu; go_simp; (try with_reducible rfl)
              try simp only [Act.put, List.setIfInBounds_toArray, List.set_cons_zero, List.set_cons_succ]
              refine tkW 25 (some 82) (v := ?_) rfl ?_ ?_
              rotate_left
              · intro u hSu; have hSv := blkCell (blkOld HG.out hSu); clear hSu; go_simp; (try with_reducible rfl)
              try simp only [Act.put, List.setIfInBounds_toArray, List.set_cons_zero, List.set_cons_succ]
              refine tkW 26 (some 83) (v := ?_) rfl ?_ ?_
              rotate_left
              · intro u hSu; have hSv := blkCell (blkOld HG.out hSu); clear hSu; go_simp; (try with_reducible rfl)
              try simp only [Act.put, List.setIfInBounds_toArray, List.set_cons_zero, List.set_cons_succ]
              refine tkW 27 (some 84) (v := ?_) rfl ?_ ?_
              rotate_left
              · intro u hSu; have hSv := blkCell (blkOld HG.out hSu); clear hSu; go_simp; (try with_reducible rfl)
              try simp only [Act.put, List.setIfInBounds_toArray, List.set_cons_zero, List.set_cons_succ]
              refine tkW 28 (some 85) (v := ?_) rfl ?_ ?_
              rotate_left
              · intro u hSu; have hSv := blkCell (blkOld HG.out hSu); clear hSu; go_simp; (try with_reducible rfl)
              try simp only [Act.put, List.setIfInBounds_toArray, List.set_cons_zero, List.set_cons_succ]
              refine tkW 29 (some 86) (v := ?_) rfl ?_ ?_
              rotate_left
              · intro u hSu; have hSv := blkCell (blkOld HG.out hSu); clear hSu; go_simp; (try with_reducible rfl)
              try simp only [Act.put, List.setIfInBounds_toArray, List.set_cons_zero, List.set_cons_succ]
              refine tkW 30 (some 87) (v := ?_) rfl ?_ ?_
              rotate_left
              · intro u hSu; have hSv := blkCell (blkOld HG.out hSu); clear hSu; go_simp; (try with_reducible rfl)
              try simp only [Act.put, List.setIfInBounds_toArray, List.set_cons_zero, List.set_cons_succ]
              refine wpAnyH_done (by kernel_rfl) ?_ _
              clear hHeld
              go_wp2_with fail
              go_meet
              case rel => exact ⟨by simp, hSn⟩
            case rest =>
              obtain ⟨rfl, hbd⟩ := hcut
              obtain ⟨w7, rfl⟩ : ∃ wm : World, wm = wc := ⟨_, rfl⟩
              have HG7 := Lib.hid (blkOld HG.out hbd)
              have HP7 := Lib.hid (HP6.out.below hbd)
              have HB7 := Lib.hid (HB6.out.trans (hbd.mono HB6.out.size))
              clear hbd HG HP6 HB6 HR6 HPM HPL HOF2 HSP2 HRP2 HRS
              have hpl16 : pcs.length ≤ 16 := by rw [HCL.out]; exact HW16.out
              have HLE := Lib.hid (show (rows.map (·.l)).length = rows.length from List.length_map _)
              have HLG := Lib.hid (show ∀ n (hn : n < rows.length) (hn2 : n < (rows.map (·.l)).length), (rows.map (·.l))[n] = rows[n].l from fun n hn hn2 => List.getElem_map _)
              generalize rows.map (·.l) = L at HCM HLE HLG
              clear HCL HW16 HWI
              go_wp2_with fail
              go_loopw [11] (fun i wr => ∃ k : Nat, k ≤ pcs.length ∧ i = .int .i64 k ∧ Below w7.heap.size w7 wr) (fun i _ => pcs.length - (intOf i).toNat)
              case atStart => exact ⟨0, Nat.zero_le _, rfl, Below.refl _ _⟩
              case round =>
                obtain ⟨i, hi, rfl, hbw⟩ := hrel
                have HBW := Lib.hid hbw
                clear hbw
                have hG := blkOld HG7.out HBW.out
                have hc3 : wr.cell? ⟨gx, 3, none⟩ = some (.slice pA pcs.length pc) := by rw [blkCell hG]; rfl
                have hik0 : (0 : Int) ≤ (i : Int) := by omega
                by_cases hlt : i < pcs.length
                · obtain ⟨cb, coff, rfl, hcca, hcbl, hccell⟩ := read_at colC_len (HP7.out.cols.below HBW.out) hlt
                  have HPC := Lib.hid ((HP7.out.col pcs[i] (List.getElem_mem hlt)).below HBW.out)
                  have HCI := Lib.hid (HCM.out i hlt)
                  have hii : (i : Int) < (pcs.length : Int) := by omega
                  have hwi : IntKind.i64.wrap ((i : Int) + 1) = (i : Int) + 1 := IntWalk.i64_in _ (by omega)
                  simp only at hcca hccell
                  generalize pcs[i] = pci at hccell HPC HCI
                  obtain ⟨⟨nu, di, es, cs⟩, E, ec, C, cc⟩ := pci
                  simp only at HCI
                  have hHE : Reads wr E ec es.length (es.flatMap valC) := HPC.out.ends
                  have hn0 : wr.cell? ⟨cb, coff + i * 4, none⟩ = some (.int .i64 nu) := hccell 0 _ rfl
                  have he2 : wr.cell? ⟨cb, coff + i * 4 + 2, none⟩ = some (.slice E es.length ec) := hccell 2 _ rfl
                  have HHE := Lib.hid hHE
                  clear hccell HPC hHE hcca
                  have HN0 := Lib.hid (fun u (hu : Below wr.heap.size wr u) => show u.cell? ⟨cb, coff + i * 4, none⟩ = some (.int .i64 nu) from by rw [hu.cell (p := ⟨cb, coff + i * 4, none⟩) hcbl]; exact hn0)
                  have HE2 := Lib.hid (fun u (hu : Below wr.heap.size wr u) => show u.cell? ⟨cb, coff + i * 4 + 2, none⟩ = some (.slice E es.length ec) from by rw [hu.cell (p := ⟨cb, coff + i * 4 + 2, none⟩) hcbl]; exact he2)
                  have hgl : gx < wr.heap.size := heapLt hG
                  have HG3 := Lib.hid (fun u (hu : Below wr.heap.size wr u) => show u.cell? ⟨gx, 3, none⟩ = some (.slice (some ⟨cb, coff, none⟩) pcs.length pc) from by rw [hu.cell (p := ⟨gx, 3, none⟩) hgl]; exact hc3)
                  clear hn0 he2 hG HCM
                  obtain ⟨e0, he0⟩ : ∃ e0, e0 = es.getD 0 Sp.nullV := ⟨_, rfl⟩
                  have hnuE := HCI.out.nu
                  have HLEA := Lib.hid HCI.out.lea
                  have HNUE := Lib.hid hnuE
                  rw [← he0] at HLEA
                  have HLS := Lib.hid HCI.out.last
                  have HE0 := Lib.hid he0
                  clear hnuE he0 HCI
                  obtain ⟨w8, rfl⟩ : ∃ wm : World, wm = wr := ⟨_, rfl⟩
                  go_wp2_with fail
                  clear hc3
                  go_loopw [12, 13, 14] (fun a b j wq => ∃ n : Nat, n ≤ rows.length ∧ a = .int .i64 (nulN L i n : Int) ∧ b = .int .i64 (leaN L i e0 n : Int) ∧ j = .int .i64 (n : Int) ∧ Below w8.heap.size w8 wq) (fun _ _ j _ => rows.length - (intOf j).toNat)
                  case atStart => exact ⟨0, Nat.zero_le _, by simp [nulN], by simp [leaN], rfl, Below.refl _ _⟩
                  case round =>
                    obtain ⟨n, hn, rfl, rfl, rfl, hbq⟩ := hrel
                    have HBQ := Lib.hid hbq
                    clear hbq
                    have hn0 : (0 : Int) ≤ (n : Int) := by omega
                    have hnl := nul_le L i n
                    have hll := lea_le L i e0 n
                    have HBR := Lib.hid (HB7.out.trans ((HBW.out.trans (HBQ.out.mono HBW.out.size)).mono HB7.out.size))
                    by_cases hnlt : n < rows.length
                    · have hnL : n < L.length := by rw [HLE.out]; exact hnlt
                      obtain ⟨b, off, rfl, hca, hbl, hcell⟩ := read_at rowC_len (HR.out.rd.below HBR.out) hnlt
                      have hni : (n : Int) < (rows.length : Int) := by omega
                      have hwn : IntKind.i64.wrap ((n : Int) + 1) = (n : Int) + 1 := IntWalk.i64_in _ (by omega)
                      have hrow := (HR.out.row rows[n] (List.getElem_mem hnlt)).below HBR.out
                      have hrr := HRT.out rows[n] (List.getElem_mem hnlt)
                      have hr40 := HRL.out rows[n] (List.getElem_mem hnlt)
                      have HNS := Lib.hid (nul_step L i n hnL)
                      have HLT := Lib.hid (lea_step L i e0 n hnL)
                      have HLR := Lib.hid (HLS.out L[n] (List.getElem_mem hnL))
                      rw [HLG.out n hnlt hnL] at HNS HLT HLR
                      generalize rows[n] = r at hcell hrow hrr hr40 HNS HLT HLR
                      obtain ⟨rl, rA, rc⟩ := r
                      simp only at hrow hrr hr40 HNS HLT HLR
                      have hc0 : wr.cell? ⟨b, off + n, none⟩ = some (.slice rA rl.length rc) := by simpa using hcell 0 _ rfl
                      have HC0 := Lib.hid (fun u (hu : Below wr.heap.size wr u) => show u.cell? ⟨b, off + n, none⟩ = some (.slice rA rl.length rc) from by rw [hu.cell (p := ⟨b, off + n, none⟩) hbl]; exact hc0)
                      clear hcell hca
                      generalize hNC : nulN L i n = NC at hnl HNS
                      generalize hLC : leaN L i e0 n = LC at hll HLT
                      generalize hNC2 : nulN L i (n + 1) = NC2 at HNS
                      generalize hLC2 : leaN L i e0 (n + 1) = LC2 at HLT
                      have HNC2 := Lib.hid hNC2
                      have HLC2 := Lib.hid hLC2
                      clear hNC hLC hNC2 hLC2
                      have hwNC : IntKind.i64.wrap ((NC : Int) + 1) = (NC : Int) + 1 := IntWalk.i64_in _ (by omega)
                      have hwLC : IntKind.i64.wrap ((LC : Int) + 1) = (LC : Int) + 1 := IntWalk.i64_in _ (by omega)
                      by_cases hin : i < rl.length
                      · obtain ⟨b2, off2, rfl, hca2, hbl2, hcell2⟩ := read_at valC_len hrow hin
                        have hgd : rl.getD i Sp.nullV = rl[i] := by rw [List.getD_eq_getElem?_getD, List.getElem?_eq_getElem hin]; rfl
                        have hiv : Sp.isV rl i = Sp.known rl[i] := by unfold Sp.isV; rw [hgd]
                        have hvr := hrr rl[i] (List.getElem_mem hin)
                        rw [hgd] at HLT HLR
                        rw [hiv] at HNS HLT HLR
                        have hlei : ¬ (rl.length : Int) ≤ (i : Int) := by omega
                        have hilt : (i : Int) < (rl.length : Int) := by omega
                        generalize rl[i] = v at hcell2 HNS HLT HLR hvr
                        obtain ⟨ak, an, sa⟩ := v
                        have hk0 : wr.cell? ⟨b2, off2 + i * 3, none⟩ = some (.int .i64 ak) := hcell2 0 _ rfl
                        have HRV := Lib.hid (show ∀ u, Below wr.heap.size wr u → u.rangeAt b2 (off2 + i * 3) [.int .i64 ak, .int .i64 an, .string sa] from fun u hu t v hv => by rw [hu.cell (p := ⟨b2, off2 + i * 3 + t, none⟩) hbl2]; exact hcell2 t v hv)
                        clear hgd hiv hcell2 hca2 hrow hrr
                        by_cases hz : ak = 0
                        · subst hz
                          have hkn : Sp.known ⟨0, an, sa⟩ = false := by rw [null_kind hvr rfl]; decide
                          have HE1 := Lib.hid (HNS.out.2 hkn)
                          have HE3 := Lib.hid (HLT.out.2.2 hkn)
                          clear HNS HLT HLR hkn hvr HRV
                          go_wp2_with fail
                          go_roundw
                          case rel => exact ⟨n + 1, by omega, by rw [HNC2.out, HE1.out]; go_num, by rw [HLC2.out, HE3.out], by go_num, HBQ.out⟩
                          case measure => simp [intOf]; omega
                        · have hkn : Sp.known ⟨ak, an, sa⟩ = true := Sp.known_iff.2 (fun h => hz (congrArg Sp.Val.kind h))
                          have hzb : (ak == 0) = false := beq_eq_false_iff_ne.2 hz
                          obtain ⟨he8, hol⟩ := HLR.out hkn
                          have HE1 := Lib.hid (HNS.out.1 hkn)
                          have HL1 := Lib.hid (HLT.out.1 hkn)
                          have HL2 := Lib.hid (HLT.out.2.1 hkn)
                          clear HNS HLT HLR hkn hvr
                          obtain ⟨eb, eoff, rfl, heca, hebl, hecell0⟩ := read_at valC_len (HHE.out.below HBQ.out) (show 0 < es.length by omega)
                          obtain ⟨_, _, hee, _, _, hecell7⟩ := read_at valC_len (HHE.out.below HBQ.out) (show 7 < es.length by omega)
                          injection hee with hee
                          injection hee with hee1 hee2
                          subst hee1 hee2
                          have hg7 : es.getD 7 Sp.nullV = es[7] := by rw [List.getD_eq_getElem?_getD, List.getElem?_eq_getElem (by omega)]; rfl
                          have hg0 : e0 = es[0] := by rw [HE0.out, List.getD_eq_getElem?_getD, List.getElem?_eq_getElem (by omega)]; rfl
                          rw [hg7] at hol
                          rw [← hg0] at hecell0
                          have HO7 := Lib.hid (fun W => order_any ⟨ak, an, sa⟩ es[7] W)
                          have HO0 := Lib.hid (fun W => order_any ⟨ak, an, sa⟩ e0 W)
                          generalize es[7] = e7 at hol hecell7 HO7
                          obtain ⟨o7, ho7⟩ : ∃ o, o = Sp.ordV ⟨ak, an, sa⟩ e7 := ⟨_, rfl⟩
                          rw [← ho7] at hol
                          simp only [← ho7] at HO7
                          obtain ⟨o0, ho0⟩ : ∃ o, o = Sp.ordV ⟨ak, an, sa⟩ e0 := ⟨_, rfl⟩
                          rw [← ho0] at HL1 HL2
                          simp only [← ho0] at HO0
                          have HR0 := Lib.hid (show ∀ u, Below wr.heap.size wr u → u.rangeAt eb eoff (valC e0) from fun u hu t v hv => by rw [hu.cell (p := ⟨eb, eoff + t, none⟩) hebl]; have := hecell0 t v hv; rw [Nat.zero_mul, Nat.add_zero] at this; exact this)
                          have HR7 := Lib.hid (show ∀ u, Below wr.heap.size wr u → u.rangeAt eb (eoff + 21) (valC e7) from fun u hu t v hv => by rw [hu.cell (p := ⟨eb, eoff + 21 + t, none⟩) hebl]; exact hecell7 t v hv)
                          clear ho7 ho0 hg7 hg0 hecell0 hecell7 heca
                          obtain ⟨k0, q0, s0⟩ := e0
                          obtain ⟨k7, q7, s7⟩ := e7
                          dsimp only [valC] at HR0 HR7
                          dsimp only [valA] at HO7 HO0
                          have he8i : ((es.length : Int) != 8) = false := by rw [he8]; rfl
                          have h0e : (0 : Int) < (es.length : Int) := by omega
                          have h0n : 0 < es.length := by omega
                          have h7e : (7 : Int) < (es.length : Int) := by omega
                          have hol2 : ¬ (0 : Int) < o7 := by omega
                          have HG3 := Lib.hid (fun u (hu : Below wr.heap.size wr u) => HG3.out u (HBQ.out.trans (hu.mono HBQ.out.size)))
                          have HE2 := Lib.hid (fun u (hu : Below wr.heap.size wr u) => HE2.out u (HBQ.out.trans (hu.mono HBQ.out.size)))
                          clear hc0
                          have hc0 := HC0.out wr (Below.refl _ _)
                          clear he8 HHE
                          go_upto_region 24 with fail
                          clear hc0 hk0
                          have hSn : Below wr.heap.size wr wr.drew := (Below.refl _ wr).drew
                          refine wp_region_held_drew (S := (fun u => Below wr.heap.size wr u)) (by kernel_rfl) ?_ (fun hHeld => ?_)
                          · exact hSn
                          generalize wr.drew = w9 at hSn ⊢
                          refine tkW 0 (some 121) (v := ?_) rfl ?_ ?_
                          rotate_left
                          · intro u hSu; have ha := HG3.out u hSu; have hb := HE2.out u hSu; have hc := HC0.out u hSu; clear hSu; go_simp; (try with_reducible rfl)
                          try simp only [Act.put, List.setIfInBounds_toArray, List.set_cons_zero, List.set_cons_succ]
                          refine tkW 1 (some 122) (v := ?_) rfl ?_ ?_
                          rotate_left
                          · intro u hSu; have ha := HG3.out u hSu; have hb := HE2.out u hSu; have hc := HC0.out u hSu; clear hSu; go_simp; (try with_reducible rfl)
                          try simp only [Act.put, List.setIfInBounds_toArray, List.set_cons_zero, List.set_cons_succ]
                          refine tkW 2 (some 123) (v := ?_) rfl ?_ ?_
                          rotate_left
                          · intro u hSu; have ha := HG3.out u hSu; have hb := HE2.out u hSu; have hc := HC0.out u hSu; clear hSu; go_simp; (try with_reducible rfl)
                          try simp only [Act.put, List.setIfInBounds_toArray, List.set_cons_zero, List.set_cons_succ]
                          refine tkW 3 (some 124) (v := ?_) rfl ?_ ?_
                          rotate_left
                          · intro u hSu; have ha := HG3.out u hSu; have hb := HE2.out u hSu; have hc := HC0.out u hSu; clear hSu; go_simp; (try with_reducible rfl)
                          try simp only [Act.put, List.setIfInBounds_toArray, List.set_cons_zero, List.set_cons_succ]
                          refine tkW 4 (some 125) (v := ?_) rfl ?_ ?_
                          rotate_left
                          · intro u hSu; have ha := HG3.out u hSu; have hb := HE2.out u hSu; have hc := HC0.out u hSu; clear hSu; go_simp; (try with_reducible rfl)
                          try simp only [Act.put, List.setIfInBounds_toArray, List.set_cons_zero, List.set_cons_succ]
                          refine tkW 5 (some 126) (v := ?_) rfl ?_ ?_
                          rotate_left
                          · intro u hSu; have ha := HG3.out u hSu; have hb := HE2.out u hSu; have hc := HC0.out u hSu; clear hSu; go_simp; (try with_reducible rfl)
                          try simp only [Act.put, List.setIfInBounds_toArray, List.set_cons_zero, List.set_cons_succ]
                          refine tkW 6 (some 127) (v := ?_) rfl ?_ ?_
                          rotate_left
                          · intro u hSu; have ha := HG3.out u hSu; have hb := HE2.out u hSu; have hc := HC0.out u hSu; clear hSu; go_simp; (try with_reducible rfl)
                          try simp only [Act.put, List.setIfInBounds_toArray, List.set_cons_zero, List.set_cons_succ]
                          refine tkW 7 (some 128) (v := ?_) rfl ?_ ?_
                          rotate_left
                          · intro u hSu; have ha := HG3.out u hSu; have hb := HE2.out u hSu; have hc := HC0.out u hSu; clear hSu; go_simp; (try with_reducible rfl)
                          try simp only [Act.put, List.setIfInBounds_toArray, List.set_cons_zero, List.set_cons_succ]
                          refine tkW 8 (some 129) (v := ?_) rfl ?_ ?_
                          rotate_left
                          · intro u hSu; have ha := HG3.out u hSu; have hb := HE2.out u hSu; have hc := HC0.out u hSu; clear hSu; go_simp; (try with_reducible rfl)
                          try simp only [Act.put, List.setIfInBounds_toArray, List.set_cons_zero, List.set_cons_succ]
                          refine tkW 9 (some 130) (v := ?_) rfl ?_ ?_
                          rotate_left
                          · intro u hSu; have ha := HG3.out u hSu; have hb := HE2.out u hSu; have hc := HC0.out u hSu; clear hSu; go_simp; (try with_reducible rfl)
                          try simp only [Act.put, List.setIfInBounds_toArray, List.set_cons_zero, List.set_cons_succ]
                          refine tkW 10 (some 131) (v := ?_) rfl ?_ ?_
                          rotate_left
                          · intro u hSu; have ha := HG3.out u hSu; have hb := HE2.out u hSu; have hc := HC0.out u hSu; clear hSu; go_simp; (try with_reducible rfl)
                          try simp only [Act.put, List.setIfInBounds_toArray, List.set_cons_zero, List.set_cons_succ]
                          refine tkW 11 (some 132) (v := ?_) rfl ?_ ?_
                          rotate_left
                          · intro u hSu; have ha := HG3.out u hSu; have hb := HE2.out u hSu; have hc := HC0.out u hSu; clear hSu; go_simp; (try with_reducible rfl)
                          try simp only [Act.put, List.setIfInBounds_toArray, List.set_cons_zero, List.set_cons_succ]
                          refine tkW 12 (some 133) (v := ?_) rfl ?_ ?_
                          rotate_left
                          · intro u hSu; have ha := HG3.out u hSu; have hb := HE2.out u hSu; have hc := HC0.out u hSu; clear hSu; go_simp; (try with_reducible rfl)
                          try simp only [Act.put, List.setIfInBounds_toArray, List.set_cons_zero, List.set_cons_succ]
                          refine tkW 13 (some 134) (v := ?_) rfl ?_ ?_
                          rotate_left
                          · intro u hSu; have ha := HG3.out u hSu; have hb := HE2.out u hSu; have hc := HC0.out u hSu; clear hSu; go_simp; (try with_reducible rfl)
                          try simp only [Act.put, List.setIfInBounds_toArray, List.set_cons_zero, List.set_cons_succ]
                          refine tkW 14 (some 135) (v := ?_) rfl ?_ ?_
                          rotate_left
                          · intro u hSu; have ha := HG3.out u hSu; have hb := HE2.out u hSu; have hc := HC0.out u hSu; clear hSu; go_simp; (try with_reducible rfl)
                          try simp only [Act.put, List.setIfInBounds_toArray, List.set_cons_zero, List.set_cons_succ]
                          refine tkV 15 (some 136) (v := .agg #[.int .i64 ak, .int .i64 an, .string sa]) rfl (yieldsIf_load_mid (by rfl) 36 (.tmp 135) rfl b2 (off2 + i * 3) (by rfl) [.int .i64 ak, .int .i64 an, .string sa] _ (HRV.out) Try.underlying36 (by kernel_rfl) (by kernel_rfl)) ?_
                          try simp only [Act.put, List.setIfInBounds_toArray, List.set_cons_zero, List.set_cons_succ]
                          refine tkW 16 (some 137) (v := ?_) rfl ?_ ?_
                          rotate_left
                          · intro u hSu; have ha := HG3.out u hSu; have hb := HE2.out u hSu; have hc := HC0.out u hSu; clear hSu; go_simp; (try with_reducible rfl)
                          try simp only [Act.put, List.setIfInBounds_toArray, List.set_cons_zero, List.set_cons_succ]
                          refine tkW 17 (some 138) (v := ?_) rfl ?_ ?_
                          rotate_left
                          · intro u hSu; have ha := HG3.out u hSu; have hb := HE2.out u hSu; have hc := HC0.out u hSu; clear hSu; go_simp; (try with_reducible rfl)
                          try simp only [Act.put, List.setIfInBounds_toArray, List.set_cons_zero, List.set_cons_succ]
                          refine tkW 18 (some 139) (v := ?_) rfl ?_ ?_
                          rotate_left
                          · intro u hSu; have ha := HG3.out u hSu; have hb := HE2.out u hSu; have hc := HC0.out u hSu; clear hSu; go_simp; (try with_reducible rfl)
                          try simp only [Act.put, List.setIfInBounds_toArray, List.set_cons_zero, List.set_cons_succ]
                          refine tkW 19 (some 140) (v := ?_) rfl ?_ ?_
                          rotate_left
                          · intro u hSu; have ha := HG3.out u hSu; have hb := HE2.out u hSu; have hc := HC0.out u hSu; clear hSu; go_simp; (try with_reducible rfl)
                          try simp only [Act.put, List.setIfInBounds_toArray, List.set_cons_zero, List.set_cons_succ]
                          refine tkW 20 (some 141) (v := ?_) rfl ?_ ?_
                          rotate_left
                          · intro u hSu; have ha := HG3.out u hSu; have hb := HE2.out u hSu; have hc := HC0.out u hSu; clear hSu; go_simp; (try with_reducible rfl)
                          try simp only [Act.put, List.setIfInBounds_toArray, List.set_cons_zero, List.set_cons_succ]
                          refine tkW 21 (some 142) (v := ?_) rfl ?_ ?_
                          rotate_left
                          · intro u hSu; have ha := HG3.out u hSu; have hb := HE2.out u hSu; have hc := HC0.out u hSu; clear hSu; go_simp; (try with_reducible rfl)
                          try simp only [Act.put, List.setIfInBounds_toArray, List.set_cons_zero, List.set_cons_succ]
                          refine tkW 22 (some 143) (v := ?_) rfl ?_ ?_
                          rotate_left
                          · intro u hSu; have ha := HG3.out u hSu; have hb := HE2.out u hSu; have hc := HC0.out u hSu; clear hSu; go_simp; (try with_reducible rfl)
                          try simp only [Act.put, List.setIfInBounds_toArray, List.set_cons_zero, List.set_cons_succ]
                          refine tkV 23 (some 144) (v := .agg #[.int .i64 k7, .int .i64 q7, .string s7]) rfl (yieldsIf_load_mid (by rfl) 36 (.tmp 143) rfl eb (eoff + 21) (by rfl) [.int .i64 k7, .int .i64 q7, .string s7] _ HR7.out Try.underlying36 (by kernel_rfl) (by kernel_rfl)) ?_
                          try simp only [Act.put, List.setIfInBounds_toArray, List.set_cons_zero, List.set_cons_succ]
                          refine rdH 24 (some 145) rfl (fun K hK => ?_)
                          go_simp
                          (with_reducible refine (HO7.out _).mono ?_); rintro e u1 ⟨rfl, hg1⟩; have hSm := joinB hSn hg1.below; clear hSn hg1; have hSn := hSm; clear hSm
                          refine hK.out _ _ ?_ (fun hHeld => ?_)
                          · exact hSn
                          clear hK K
                          try simp only [Act.put, List.setIfInBounds_toArray, List.set_cons_zero, List.set_cons_succ]
                          refine tkW 25 (some 146) (v := ?_) rfl ?_ ?_
                          rotate_left
                          · intro u hSu; have ha := HG3.out u hSu; have hb := HE2.out u hSu; have hc := HC0.out u hSu; clear hSu; go_simp; (try with_reducible rfl)
                          try simp only [Act.put, List.setIfInBounds_toArray, List.set_cons_zero, List.set_cons_succ]
                          refine tkW 26 (some 147) (v := ?_) rfl ?_ ?_
                          rotate_left
                          · intro u hSu; have ha := HG3.out u hSu; have hb := HE2.out u hSu; have hc := HC0.out u hSu; clear hSu; go_simp; (try with_reducible rfl)
                          try simp only [Act.put, List.setIfInBounds_toArray, List.set_cons_zero, List.set_cons_succ]
                          refine wpAnyH_done (by kernel_rfl) ?_ _
                          clear hHeld
                          go_upto_region 26 with fail
                          have hSm : Below wr.heap.size wr u1.drew := hSn.drew
                          clear hSn
                          have hSn := hSm
                          clear hSm
                          refine wp_region_held_drew (S := (fun u => Below wr.heap.size wr u)) (by kernel_rfl) ?_ (fun hHeld => ?_)
                          · exact hSn
                          generalize u1.drew = w9 at hSn ⊢
                          refine tkW 0 (some 148) (v := ?_) rfl ?_ ?_
                          rotate_left
                          · intro u hSu; have ha := HG3.out u hSu; have hb := HE2.out u hSu; have hc := HC0.out u hSu; clear hSu; go_simp; (try with_reducible rfl)
                          try simp only [Act.put, List.setIfInBounds_toArray, List.set_cons_zero, List.set_cons_succ]
                          refine tkW 1 (some 149) (v := ?_) rfl ?_ ?_
                          rotate_left
                          · intro u hSu; have ha := HG3.out u hSu; have hb := HE2.out u hSu; have hc := HC0.out u hSu; clear hSu; go_simp; (try with_reducible rfl)
                          try simp only [Act.put, List.setIfInBounds_toArray, List.set_cons_zero, List.set_cons_succ]
                          refine tkW 2 (some 150) (v := ?_) rfl ?_ ?_
                          rotate_left
                          · intro u hSu; have ha := HG3.out u hSu; have hb := HE2.out u hSu; have hc := HC0.out u hSu; clear hSu; go_simp; (try with_reducible rfl)
                          try simp only [Act.put, List.setIfInBounds_toArray, List.set_cons_zero, List.set_cons_succ]
                          refine tkW 3 (some 151) (v := ?_) rfl ?_ ?_
                          rotate_left
                          · intro u hSu; have ha := HG3.out u hSu; have hb := HE2.out u hSu; have hc := HC0.out u hSu; clear hSu; go_simp; (try with_reducible rfl)
                          try simp only [Act.put, List.setIfInBounds_toArray, List.set_cons_zero, List.set_cons_succ]
                          refine tkW 4 (some 152) (v := ?_) rfl ?_ ?_
                          rotate_left
                          · intro u hSu; have ha := HG3.out u hSu; have hb := HE2.out u hSu; have hc := HC0.out u hSu; clear hSu; go_simp; (try with_reducible rfl)
                          try simp only [Act.put, List.setIfInBounds_toArray, List.set_cons_zero, List.set_cons_succ]
                          refine tkW 5 (some 153) (v := ?_) rfl ?_ ?_
                          rotate_left
                          · intro u hSu; have ha := HG3.out u hSu; have hb := HE2.out u hSu; have hc := HC0.out u hSu; clear hSu; go_simp; (try with_reducible rfl)
                          try simp only [Act.put, List.setIfInBounds_toArray, List.set_cons_zero, List.set_cons_succ]
                          refine tkV 6 (some 154) (v := .agg #[.int .i64 ak, .int .i64 an, .string sa]) rfl (yieldsIf_load_mid (by rfl) 36 (.tmp 153) rfl b2 (off2 + i * 3) (by rfl) [.int .i64 ak, .int .i64 an, .string sa] _ (HRV.out) Try.underlying36 (by kernel_rfl) (by kernel_rfl)) ?_
                          try simp only [Act.put, List.setIfInBounds_toArray, List.set_cons_zero, List.set_cons_succ]
                          refine tkW 7 (some 155) (v := ?_) rfl ?_ ?_
                          rotate_left
                          · intro u hSu; have ha := HG3.out u hSu; have hb := HE2.out u hSu; have hc := HC0.out u hSu; clear hSu; go_simp; (try with_reducible rfl)
                          try simp only [Act.put, List.setIfInBounds_toArray, List.set_cons_zero, List.set_cons_succ]
                          refine tkW 8 (some 156) (v := ?_) rfl ?_ ?_
                          rotate_left
                          · intro u hSu; have ha := HG3.out u hSu; have hb := HE2.out u hSu; have hc := HC0.out u hSu; clear hSu; go_simp; (try with_reducible rfl)
                          try simp only [Act.put, List.setIfInBounds_toArray, List.set_cons_zero, List.set_cons_succ]
                          refine tkW 9 (some 157) (v := ?_) rfl ?_ ?_
                          rotate_left
                          · intro u hSu; have ha := HG3.out u hSu; have hb := HE2.out u hSu; have hc := HC0.out u hSu; clear hSu; go_simp; (try with_reducible rfl)
                          try simp only [Act.put, List.setIfInBounds_toArray, List.set_cons_zero, List.set_cons_succ]
                          refine tkW 10 (some 158) (v := ?_) rfl ?_ ?_
                          rotate_left
                          · intro u hSu; have ha := HG3.out u hSu; have hb := HE2.out u hSu; have hc := HC0.out u hSu; clear hSu; go_simp; (try with_reducible rfl)
                          try simp only [Act.put, List.setIfInBounds_toArray, List.set_cons_zero, List.set_cons_succ]
                          refine tkW 11 (some 159) (v := ?_) rfl ?_ ?_
                          rotate_left
                          · intro u hSu; have ha := HG3.out u hSu; have hb := HE2.out u hSu; have hc := HC0.out u hSu; clear hSu; go_simp; (try with_reducible rfl)
                          try simp only [Act.put, List.setIfInBounds_toArray, List.set_cons_zero, List.set_cons_succ]
                          refine tkW 12 (some 160) (v := ?_) rfl ?_ ?_
                          rotate_left
                          · intro u hSu; have ha := HG3.out u hSu; have hb := HE2.out u hSu; have hc := HC0.out u hSu; clear hSu; go_simp; (try with_reducible rfl)
                          try simp only [Act.put, List.setIfInBounds_toArray, List.set_cons_zero, List.set_cons_succ]
                          refine tkW 13 (some 161) (v := ?_) rfl ?_ ?_
                          rotate_left
                          · intro u hSu; have ha := HG3.out u hSu; have hb := HE2.out u hSu; have hc := HC0.out u hSu; clear hSu; go_simp; (try with_reducible rfl)
                          try simp only [Act.put, List.setIfInBounds_toArray, List.set_cons_zero, List.set_cons_succ]
                          refine tkV 14 (some 162) (v := .agg #[.int .i64 k0, .int .i64 q0, .string s0]) rfl (yieldsIf_load_mid (by rfl) 36 (.tmp 161) rfl eb (eoff) (by rfl) [.int .i64 k0, .int .i64 q0, .string s0] _ HR0.out Try.underlying36 (by kernel_rfl) (by kernel_rfl)) ?_
                          try simp only [Act.put, List.setIfInBounds_toArray, List.set_cons_zero, List.set_cons_succ]
                          refine rdH 15 (some 163) rfl (fun K hK => ?_)
                          go_simp
                          (with_reducible refine (HO0.out _).mono ?_); rintro e u1 ⟨rfl, hg1⟩; have hSm := joinB hSn hg1.below; clear hSn hg1; have hSn := hSm; clear hSm
                          refine hK.out _ _ ?_ (fun hHeld => ?_)
                          · exact hSn
                          clear hK K
                          try simp only [Act.put, List.setIfInBounds_toArray, List.set_cons_zero, List.set_cons_succ]
                          refine tkW 16 (some 164) (v := ?_) rfl ?_ ?_
                          rotate_left
                          · intro u hSu; have ha := HG3.out u hSu; have hb := HE2.out u hSu; have hc := HC0.out u hSu; clear hSu; go_simp; (try with_reducible rfl)
                          try simp only [Act.put, List.setIfInBounds_toArray, List.set_cons_zero, List.set_cons_succ]
                          refine wpAnyH_done (by kernel_rfl) ?_ _
                          clear hHeld
                          by_cases ho : o0 < 0
                          · have HE3 := Lib.hid (HL1.out ho)
                            clear HL1 HL2
                            go_wp2_with fail
                            go_roundw
                            case rel => exact ⟨n + 1, by omega, by rw [HNC2.out, HE1.out], by rw [HLC2.out, HE3.out]; go_num, by go_num, HBQ.out.trans (hSn.mono HBQ.out.size)⟩
                            case measure => simp [intOf]; omega
                          · have HE3 := Lib.hid (HL2.out ho)
                            clear HL1 HL2
                            go_wp2_with fail
                            go_roundw
                            case rel => exact ⟨n + 1, by omega, by rw [HNC2.out, HE1.out], by rw [HLC2.out, HE3.out], by go_num, HBQ.out.trans (hSn.mono HBQ.out.size)⟩
                            case measure => simp [intOf]; omega
                      · have hkn : Sp.isV rl i = false := by unfold Sp.isV; rw [List.getD_eq_getElem?_getD, List.getElem?_eq_none (by omega)]; decide
                        have HE1 := Lib.hid (HNS.out.2 hkn)
                        have HE3 := Lib.hid (HLT.out.2.2 hkn)
                        have hlei : (rl.length : Int) ≤ (i : Int) := by omega
                        clear HNS HLT HLR hkn hrow hrr
                        go_wp2_with fail
                        go_roundw
                        case rel => exact ⟨n + 1, by omega, by rw [HNC2.out, HE1.out]; go_num, by rw [HLC2.out, HE3.out], by go_num, HBQ.out⟩
                        case measure => simp [intOf]; omega
                    · obtain rfl : n = rows.length := by omega
                      have hle := HLE.out
                      have hlea := HLEA.out
                      have hnu := HNUE.out
                      rw [hle] at hlea hnu
                      generalize nulN L i rows.length = NC at hnl hnu
                      generalize leaN L i e0 rows.length = LC at hll hlea
                      subst hnu
                      have hc3 := HG3.out wr HBQ.out
                      have hc4 := HN0.out wr HBQ.out
                      have hbn : ((NC : Int) != (NC : Int)) = false := bne_self_eq_false _
                      have hq8 : Int.tdiv (rows.length : Int) 8 = (rows.length : Int) / 8 := Int.tdiv_eq_ediv_of_nonneg (by omega)
                      have hw8 : IntKind.i64.wrap ((rows.length : Int) / 8) = (rows.length : Int) / 8 := IntWalk.i64_in _ (by omega)
                      have hlc : ¬ (rows.length : Int) / 8 < (LC : Int) := by omega
                      go_wp2_with fail
                      go_roundw
                      case rel => exact ⟨i + 1, by omega, by go_num, HBW.out.trans (HBQ.out.mono HBW.out.size)⟩
                      case measure => simp [intOf]; omega
                · obtain rfl : i = pcs.length := by omega
                  go_wp2_with fail
                  go_ret
                  exact ⟨by simp, HB7.out.trans (HBW.out.mono HB7.out.size)⟩
  · have HS := Lib.hid hs
    clear hr hrl hrv hs
    go_enter Try.func4, Try.ntmps4
    go_wp2_with (first
      | (go_at_call 6; (with_reducible refine HSL.out.mono ?_); rintro e w1 ⟨q, rfl, hq, hb1⟩; obtain rfl := q_false hq HS.out)
      | (go_at_call 7; (with_reducible refine (HAW.out _).mono ?_); rintro e w2 ⟨rfl, hb2⟩; have hb02 := joinB hb1 hb2))
    go_ret
    exact ⟨by simp, hb02⟩
end Go.Proofs.Ytmhpbmobfdgkeaa
