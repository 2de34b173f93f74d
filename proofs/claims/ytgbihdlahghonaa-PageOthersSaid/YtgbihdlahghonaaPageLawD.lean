/- The walk of PageOthers. -/
import Derived.Test.YtgbihdlahghonaaPagePlain8
import Derived.Test.YtgbihdlahghonaaPageLawA
namespace Go.Proofs.Ytgbihdlahghonaa
open Go.RowKit

theorem blk2 {w : World} {b : Nat} {a c : Value} {T : TypeId} (h : w.heap[b]? = some (.cells #[a, c] T (0, 0))) : w.cell? ⟨b, 0, none⟩ = some a ∧ w.cell? ⟨b, 1, none⟩ = some c ∧ w.frozen? ⟨b, 0, none⟩ = false ∧ w.frozen? ⟨b, 1, none⟩ = false := by
  refine ⟨by rw [cell_of_blk h]; rfl, by rw [cell_of_blk h]; rfl, ?_, ?_⟩ <;> simp [World.frozen?, h]
theorem blk3 {w : World} {b : Nat} {a c d : Value} {T : TypeId} (h : w.heap[b]? = some (.cells #[a, c, d] T (0, 0))) : w.cell? ⟨b, 0, none⟩ = some a ∧ w.cell? ⟨b, 1, none⟩ = some c ∧ w.cell? ⟨b, 2, none⟩ = some d ∧ w.frozen? ⟨b, 0, none⟩ = false ∧ w.frozen? ⟨b, 1, none⟩ = false ∧ w.frozen? ⟨b, 2, none⟩ = false := by
  refine ⟨by rw [cell_of_blk h]; rfl, by rw [cell_of_blk h]; rfl, by rw [cell_of_blk h]; rfl, ?_, ?_, ?_⟩ <;> simp [World.frozen?, h]
/-- A box with two numbers and a row of three texts, while nothing but new blocks is made. -/
abbrev Held5 (X Y : Nat) (a c : Value) (t0 t1 t2 : ByteArray) (w0 u : World) : Prop :=
  u.cell? ⟨X, 0, none⟩ = some a ∧ u.cell? ⟨X, 1, none⟩ = some c ∧ u.cell? ⟨Y, 0, none⟩ = some (.string t0) ∧ u.cell? ⟨Y, 1, none⟩ = some (.string t1) ∧ u.cell? ⟨Y, 2, none⟩ = some (.string t2) ∧ X < u.heap.size ∧ Y < u.heap.size ∧ Below w0.heap.size w0 u
theorem Held5.step {X Y : Nat} {a c : Value} {t0 t1 t2 : ByteArray} {w0 u v : World} (h : Held5 X Y a c t0 t1 t2 w0 u) (hb : Below u.heap.size u v) : Held5 X Y a c t0 t1 t2 w0 v := by
  obtain ⟨h0, h1, h2, h3, h4, h5, h6, h7⟩ := h
  have := hb.size
  refine ⟨?_, ?_, ?_, ?_, ?_, by omega, by omega, andThen h7 hb⟩
  · rw [hb.cell (p := ⟨X, 0, none⟩) h5]; exact h0
  · rw [hb.cell (p := ⟨X, 1, none⟩) h5]; exact h1
  · rw [hb.cell (p := ⟨Y, 0, none⟩) h6]; exact h2
  · rw [hb.cell (p := ⟨Y, 1, none⟩) h6]; exact h3
  · rw [hb.cell (p := ⟨Y, 2, none⟩) h6]; exact h4
theorem make_texts (W : World) : (Instr.makeSlice 40 (.int .i64 3) (.int .i64 3)).run Try.prog W = .ok (.slice (some ⟨W.heap.size, 0, none⟩) 3 3) (W.alloc (.cells (madeCells #[Value.string ⟨#[]⟩] 3) 9)) := by
  obtain ⟨i0, hi, hz0, hz1, hz2⟩ := info_parts info_string
  have h := run_make (P := Try.prog) W 40 9 i0 (.string ⟨#[]⟩) Try.underlying40 hi hz0 .i64 .i64 3 3 (by omega) (by omega) (by rw [hz2]; omega) (by omega)
  rw [hz1] at h
  exact h
theorem made3 : madeCells #[Value.string ⟨#[]⟩] 3 = #[.string ⟨#[]⟩, .string ⟨#[]⟩, .string ⟨#[]⟩] := Array.toList_inj.1 (by rw [toList_madeCells_one]; rfl)

set_option maxRecDepth 100000 in
set_option maxHeartbeats 8000000 in
theorem others_any (p : ByteArray) (i j : Int) (r : ByteArray) (hp : p.size ≤ 140737488355328) (hr : r.size ≤ 140737488355328) (w : World) :
    Calls Try.prog 7 #[.string p, .agg #[.int .i64 i, .int .i64 j], .string r] w fun e w' => e = .returned (.bool true) ∧ Below w.heap.size w w' := by
  have HW := Lib.hid (fun W => awake_any W)
  have hall : 600 < p.size ∨ 600 < r.size ∨ 1073741824 < j ∨ j < 0 ∨ (p.size ≤ 600 ∧ r.size ≤ 600 ∧ 0 ≤ j ∧ j ≤ 1073741824) := by omega
  by_cases hlong : 600 < p.size
  · have h600 : (600 : Int) < (p.size : Int) := by omega
    clear hlong hall
    go_enter Try.func7, Try.ntmps7
    go_wp2_with (first | (go_at_call 14; refine (HW.out _).mono ?_; rintro e w1 ⟨rfl, hb1⟩))
    go_ret
    exact ⟨rfl, below_past hb1⟩
  have h600 : (p.size : Int) ≤ 600 := by omega
  have hm : p.size ≤ 1048576 := by omega
  by_cases hlong2 : 600 < r.size
  · have h601 : (600 : Int) < (r.size : Int) := by omega
    clear hlong hlong2 hall
    go_enter Try.func7, Try.ntmps7
    go_wp2_with (first | (go_at_call 14; refine (HW.out _).mono ?_; rintro e w1 ⟨rfl, hb1⟩))
    go_ret
    exact ⟨rfl, below_past hb1⟩
  have h601 : (r.size : Int) ≤ 600 := by omega
  by_cases hj1 : 1073741824 < j
  · clear hlong hlong2 hall
    go_enter Try.func7, Try.ntmps7
    go_wp2_with (first | (go_at_call 14; refine (HW.out _).mono ?_; rintro e w1 ⟨rfl, hb1⟩))
    go_ret
    exact ⟨rfl, below_past hb1⟩
  by_cases hj0 : j < 0
  · have hj2 : j ≤ 1073741824 := by omega
    clear hlong hlong2 hall hj1
    go_enter Try.func7, Try.ntmps7
    go_wp2_with (first | (go_at_call 14; refine (HW.out _).mono ?_; rintro e w1 ⟨rfl, hb1⟩))
    go_ret
    exact ⟨rfl, below_past hb1⟩
  obtain ⟨o, rfl⟩ := Int.eq_ofNat_of_zero_le (show 0 ≤ j by omega)
  have ho1 : (o : Int) ≤ 1073741824 := by omega
  have ho0 : (0 : Int) ≤ (o : Int) := by omega
  clear hlong hlong2 hall hj1 hj0
  have HG := Lib.hid (fun W => get_any_rec p (o : Int) hm W)
  have H1 := Lib.hid (fun W => pput_any p i r hm W)
  have H2 := Lib.hid (fun W => pset_any p i r hm W)
  have H3 := Lib.hid (fun W => pcut_any p i hm W)
  have H4 := Lib.hid (fun W => padd_any p i r hm W)
  have H5 := Lib.hid (fun W => pdel_any p i hm W)
  have bad : ∀ q : ByteArray, q = ⟨#[]⟩ ∨ (q.size = 512 ∧ (i ≠ (o : Int) → Pg.slotAt (leafP q).recs (o : Int) = Pg.slotAt (leafP p).recs (o : Int))) → ∃ s b, (∀ W, Calls Try.prog 15 #[.string q, .int .i64 (o : Int)] W fun e w' => e = .returned (.tuple #[.string s, .bool b]) ∧ Below W.heap.size W w') ∧ (¬ q.size = 0 → i ≠ (o : Int) → s = Pg.slotAt (leafP p).recs (o : Int) ∧ b = !decide ((Pg.slotAt (leafP p).recs (o : Int)).size = 0)) := fun q h => by
    refine ⟨_, _, fun W => get_any_rec q (o : Int) ?_ W, fun h1 h2 => ?_⟩
    · rcases h with h | h
      · rw [h]; show (0 : Nat) ≤ 1048576; omega
      · omega
    · rcases h with h | h
      · rw [h] at h1; exact absurd rfl h1
      · rw [h.2 h2]; exact ⟨rfl, rfl⟩
  obtain ⟨s1, b1, G1, F1⟩ := bad (putO p i r).1 (by
    rcases putO_bad p r i with h | h
    · by_cases hio : i = (o : Int)
      · obtain ⟨k, _, _, _, _, _, M⟩ := putO_ok (q := (putO p i r).1) (by rw [← h])
        exact .inr ⟨M.size, fun h2 => absurd hio h2⟩
      · obtain ⟨h3, h4⟩ := other1 (q := (putO p i r).1) (o := o) (by rw [← h]) hio
        exact .inr ⟨h3, fun _ => h4⟩
    · exact .inl h)
  obtain ⟨s2, b2, G2, F2⟩ := bad (setO p i r).1 (by
    rcases setO_bad p r i with h | h
    · by_cases hio : i = (o : Int)
      · obtain ⟨k, _, _, _, _, _, M⟩ := setO_ok (q := (setO p i r).1) (by rw [← h])
        exact .inr ⟨M.size, fun h2 => absurd hio h2⟩
      · obtain ⟨h3, h4⟩ := other2 (q := (setO p i r).1) (o := o) (by rw [← h]) hio
        exact .inr ⟨h3, fun _ => h4⟩
    · exact .inl h)
  obtain ⟨s3, b3, G3, F3⟩ := bad (cutO p i).1 (by
    rcases cutO_bad p i with h | h
    · by_cases hio : i = (o : Int)
      · obtain ⟨k, _, _, _, _, M⟩ := cutO_ok (q := (cutO p i).1) (by rw [← h])
        exact .inr ⟨M.size, fun h2 => absurd hio h2⟩
      · obtain ⟨h3, h4⟩ := other3 (q := (cutO p i).1) (o := o) (by rw [← h]) hio
        exact .inr ⟨h3, fun _ => h4⟩
    · exact .inl h)
  clear bad
  have K4 : (addO p i r).2 = 0 → ∀ at_ : Int, (i ≤ o ∧ at_ = (o : Int) + 1 ∨ (o : Int) < i ∧ at_ = o) →
      (∀ W, Calls Try.prog 15 #[.string (addO p i r).1, .int .i64 at_] W fun e w' => e = .returned (.tuple #[.string (Pg.slotAt (leafP p).recs (o : Int)), .bool (!decide ((Pg.slotAt (leafP p).recs (o : Int)).size = 0))]) ∧ Below W.heap.size W w')
      ∧ (∀ W, Calls Try.prog 15 #[.string (addO p i r).1, .int .i64 i] W fun e w' => e = .returned (.tuple #[.string r, .bool true]) ∧ Below W.heap.size W w') := fun h at_ hat => by
    obtain ⟨h1, h2, h3, h4, h5⟩ := other4 (q := (addO p i r).1) (o := o) (show addO p i r = ((addO p i r).1, 0) by rw [← h])
    refine ⟨fun W => ?_, fun W => ?_⟩
    · have h6 := get_any_rec (addO p i r).1 at_ (by omega) W
      rcases hat with ⟨ha, rfl⟩ | ⟨ha, rfl⟩
      · rwa [h4 ha] at h6
      · rwa [h5 ha] at h6
    · have h6 := get_any_rec (addO p i r).1 i (by omega) W
      rw [h2, decide_eq_false h3] at h6
      exact h6
  have K5 : (delO p i).2 = 0 → ∀ at_ : Int, (i < o ∧ at_ = (o : Int) - 1 ∨ (o : Int) < i ∧ at_ = o) →
      (∀ W, Calls Try.prog 15 #[.string (delO p i).1, .int .i64 at_] W fun e w' => e = .returned (.tuple #[.string (Pg.slotAt (leafP p).recs (o : Int)), .bool (!decide ((Pg.slotAt (leafP p).recs (o : Int)).size = 0))]) ∧ Below W.heap.size W w') := fun h at_ hat W => by
    obtain ⟨h1, h4, h5⟩ := other5 (q := (delO p i).1) (o := o) (show delO p i = ((delO p i).1, 0) by rw [← h])
    have h6 := get_any_rec (delO p i).1 at_ (by omega) W
    rcases hat with ⟨ha, rfl⟩ | ⟨ha, rfl⟩
    · rwa [h4 ha] at h6
    · rwa [h5 ha] at h6
  generalize putO p i r = o1 at H1 G1 F1
  generalize setO p i r = o2 at H2 G2 F2
  generalize cutO p i = o3 at H3 G3 F3
  generalize addO p i r = o4 at H4 K4
  generalize delO p i = o5 at H5 K5
  generalize Pg.slotAt (leafP p).recs (o : Int) = was at HG F1 F2 F3 K4 K5
  generalize (!decide (was.size = 0)) = is at HG F1 F2 F3 K4 K5
  obtain ⟨q1, x1⟩ := o1
  obtain ⟨q2, x2⟩ := o2
  obtain ⟨q3, x3⟩ := o3
  obtain ⟨q4, x4⟩ := o4
  obtain ⟨q5, x5⟩ := o5
  have HG1 := Lib.hid G1
  have HG2 := Lib.hid G2
  have HG3 := Lib.hid G3
  have HF1 := Lib.hid F1
  have HF2 := Lib.hid F2
  have HF3 := Lib.hid F3
  have HK4 := Lib.hid K4
  have HK5 := Lib.hid K5
  clear G1 G2 G3 F1 F2 F3 K4 K5 hp hr hm
  have hmk := make_texts
  rw [made3] at hmk
  go_enter Try.func7, Try.ntmps7
  go_upto_region 5 with (first | (go_at_call 15; refine (HG.out _).mono ?_; rintro e w1 ⟨rfl, hb1⟩))
  clear hmk
  obtain ⟨X, hX⟩ : ∃ X, X = w.heap.size := ⟨_, rfl⟩
  obtain ⟨Y, hY⟩ : ∃ Y, Y = w1.heap.size := ⟨_, rfl⟩
  have hXY : X < Y := by have := hb1.size; simp at this; omega
  obtain ⟨W1, hW1⟩ : ∃ W1, W1 = w1.alloc (.cells #[.string ⟨#[]⟩, .string ⟨#[]⟩, .string ⟨#[]⟩] 9) := ⟨_, rfl⟩
  have hbox : W1.heap[X]? = some (.cells #[.int .i64 i, .int .i64 (o : Int)] 39 (0, 0)) := by
    rw [hW1, Below.heap_alloc _ _ _ (by omega), hX]; exact blk_new hb1
  have hlst : W1.heap[Y]? = some (.cells #[.string ⟨#[]⟩, .string ⟨#[]⟩, .string ⟨#[]⟩] 9 (0, 0)) := by
    rw [hW1, hY]; exact heap_alloc_new w1 _
  have hbw : Below w.heap.size w W1 := by rw [hW1]; exact below_past_alloc (below_past hb1)
  have hYs : Y < W1.heap.size := by rw [hW1, hY]; simp
  rw [← hW1, ← hY, ← hX]
  have HX := Lib.hid hX
  clear hW1 hY hX hb1
  obtain ⟨c0, c1, f0, f1⟩ := blk2 hbox
  go_upto_region 6 with (first | (go_at_call 35; refine (H1.out _).mono ?_; rintro e w3 ⟨rfl, hb2⟩; obtain ⟨d0, d1, d2, g0, g1, g2⟩ := blk3 (blk_old hlst hb2)))
  have hbox2 := (Below.heap_setCell w3 ⟨Y, 0, none⟩ (.string q1) X (by show X ≠ Y; omega)).trans (blk_old hbox hb2)
  have hlst2 := blk_set 0 (blk_old hlst hb2) (.string q1)
  have hbw2 := (andThen hbw hb2).setCell (p := ⟨Y, 0, none⟩) (by rw [← HX.out]; show X ≤ Y; omega) (.string q1)
  have hys2 : Y < (w3.setCell ⟨Y, 0, none⟩ (.string q1)).heap.size := by have h9 := Nat.lt_of_lt_of_le hYs hb2.size; simpa using h9
  clear hb2 hbox hlst hbw hYs c0 c1 f0 f1 d0 d1 d2 g0 g1 g2
  obtain ⟨c0, c1, f0, f1⟩ := blk2 hbox2
  go_upto_region 7 with (first | (go_at_call 44; refine (H2.out _).mono ?_; rintro e w4 ⟨rfl, hb2⟩; obtain ⟨d0, d1, d2, g0, g1, g2⟩ := blk3 (blk_old hlst2 hb2)))
  have hbox3 := (Below.heap_setCell w4 ⟨Y, 1, none⟩ (.string q2) X (by show X ≠ Y; omega)).trans (blk_old hbox2 hb2)
  have hlst3 := blk_set 1 (blk_old hlst2 hb2) (.string q2)
  have hbw3 := (andThen hbw2 hb2).setCell (p := ⟨Y, 1, none⟩) (by rw [← HX.out]; show X ≤ Y; omega) (.string q2)
  have hys3 : Y < (w4.setCell ⟨Y, 1, none⟩ (.string q2)).heap.size := by have h9 := Nat.lt_of_lt_of_le hys2 hb2.size; simpa using h9
  clear hb2 hbox2 hlst2 hbw2 hys2 c0 c1 f0 f1 d0 d1 d2 g0 g1 g2
  obtain ⟨c0, c1, f0, f1⟩ := blk2 hbox3
  go_upto_region 8 with (first | (go_at_call 48; refine (H3.out _).mono ?_; rintro e w5 ⟨rfl, hb2⟩; obtain ⟨d0, d1, d2, g0, g1, g2⟩ := blk3 (blk_old hlst3 hb2)))
  have hbox4 := (Below.heap_setCell w5 ⟨Y, 2, none⟩ (.string q3) X (by show X ≠ Y; omega)).trans (blk_old hbox3 hb2)
  have hlst4 := blk_set 2 (blk_old hlst3 hb2) (.string q3)
  have hbw4 := (andThen hbw3 hb2).setCell (p := ⟨Y, 2, none⟩) (by rw [← HX.out]; show X ≤ Y; omega) (.string q3)
  have hys4 : Y < (w5.setCell ⟨Y, 2, none⟩ (.string q3)).heap.size := by have h9 := Nat.lt_of_lt_of_le hys3 hb2.size; simpa using h9
  clear hb2 hbox3 hlst3 hbw3 hys3 c0 c1 f0 f1 d0 d1 d2 g0 g1 g2
  have hlst5 : (w5.setCell ⟨Y, 2, none⟩ (.string q3)).heap[Y]? = some (.cells #[.string q1, .string q2, .string q3] 9 (0, 0)) := hlst4
  clear hlst4
  obtain ⟨V, hV⟩ : ∃ V, V = w5.setCell ⟨Y, 2, none⟩ (.string q3) := ⟨_, rfl⟩
  rw [← hV] at hbox4 hlst5 hbw4 hys4 ⊢
  clear hV
  have HH := Lib.hid (show Held5 X Y (.int .i64 i) (.int .i64 (o : Int)) q1 q2 q3 V V from by
    obtain ⟨c0, c1, f0, f1⟩ := blk2 hbox4
    obtain ⟨d0, d1, d2, g0, g1, g2⟩ := blk3 hlst5
    exact ⟨c0, c1, d0, d1, d2, by omega, hys4, Below.refl _ _⟩)
  clear hbox4 hlst5 hys4
  have HB := Lib.hid hbw4
  clear hbw4
  go_upto_block 0 with (fail)
  go_cut [] (fun wc => Held5 X Y (.int .i64 i) (.int .i64 (o : Int)) q1 q2 q3 V wc)
  case first =>
    go_wp2_with fail
    go_loopw [10] (fun iv wr => ∃ k : Nat, k ≤ 3 ∧ iv = .int .i64 k ∧ Held5 X Y (.int .i64 i) (.int .i64 (o : Int)) q1 q2 q3 V wr) (fun iv _ => 3 - (intOf iv).toNat)
    case atStart => exact ⟨0, by omega, rfl, HH.out⟩
    case round =>
      obtain ⟨k, hk, rfl, hS0⟩ := hrel
      have HS0 := Lib.hid hS0
      clear hS0
      have hk4 : k = 0 ∨ k = 1 ∨ k = 2 ∨ k = 3 := by omega
      clear hk
      rcases hk4 with rfl | rfl | rfl | rfl
      · go_upto_region 11 with (fail)
        go_cut [11, 12] (fun s t wc => s = .string s1 ∧ t = .bool b1 ∧ Held5 X Y (.int .i64 i) (.int .i64 (o : Int)) q1 q2 q3 V wc)
        case first =>
          go_region_held3 (fun we => Held5 X Y (.int .i64 i) (.int .i64 (o : Int)) q1 q2 q3 V we) (first | assumption | exact HS0.out.step ((Below.refl _ _).drew)) (first | (go_at_call 15; refine (HG1.out _).mono ?_; rintro e w6 ⟨rfl, hb6⟩; have hS := Held5.step (by assumption) hb6; clear hb6))
          go_wp2_with fail
          go_meet
          case rel => exact ⟨rfl, rfl, hS⟩
        case rest =>
          obtain ⟨rfl, rfl, hS⟩ := hcut
          have HS := Lib.hid hS
          obtain ⟨c0, c1, d0, d1, d2, -, -, -⟩ := hS
          by_cases hz : q1.size = 0
          · rw [empty_yes hz] at d0
            clear hz
            go_wp2_with fail
            go_roundw
            case rel => exact ⟨1, by omega, rfl, HS.out⟩
            case measure => simp [intOf]
          · obtain ⟨hie, hne⟩ := empty_no hz
            by_cases hio : i = (o : Int)
            · subst hio
              clear hz
              go_wp2_with fail
              go_roundw
              case rel => exact ⟨1, by omega, rfl, HS.out⟩
              case measure => simp [intOf]
            · have hio2 : (i == (o : Int)) = false := by simp [hio]
              have hio3 : (i != (o : Int)) = true := by simp [hio]
              obtain ⟨hs, hbb⟩ := HF1.out hz hio
              clear hz hio
              subst hs
              subst hbb
              go_wp2_with fail
              go_roundw
              case rel => exact ⟨1, by omega, rfl, HS.out⟩
              case measure => simp [intOf]
      · go_upto_region 11 with (fail)
        go_cut [11, 12] (fun s t wc => s = .string s2 ∧ t = .bool b2 ∧ Held5 X Y (.int .i64 i) (.int .i64 (o : Int)) q1 q2 q3 V wc)
        case first =>
          go_region_held3 (fun we => Held5 X Y (.int .i64 i) (.int .i64 (o : Int)) q1 q2 q3 V we) (first | assumption | exact HS0.out.step ((Below.refl _ _).drew)) (first | (go_at_call 15; refine (HG2.out _).mono ?_; rintro e w6 ⟨rfl, hb6⟩; have hS := Held5.step (by assumption) hb6; clear hb6))
          go_wp2_with fail
          go_meet
          case rel => exact ⟨rfl, rfl, hS⟩
        case rest =>
          obtain ⟨rfl, rfl, hS⟩ := hcut
          have HS := Lib.hid hS
          obtain ⟨c0, c1, d0, d1, d2, -, -, -⟩ := hS
          by_cases hz : q2.size = 0
          · rw [empty_yes hz] at d1
            clear hz
            go_wp2_with fail
            go_roundw
            case rel => exact ⟨2, by omega, rfl, HS.out⟩
            case measure => simp [intOf]
          · obtain ⟨hie, hne⟩ := empty_no hz
            by_cases hio : i = (o : Int)
            · subst hio
              clear hz
              go_wp2_with fail
              go_roundw
              case rel => exact ⟨2, by omega, rfl, HS.out⟩
              case measure => simp [intOf]
            · have hio2 : (i == (o : Int)) = false := by simp [hio]
              have hio3 : (i != (o : Int)) = true := by simp [hio]
              obtain ⟨hs, hbb⟩ := HF2.out hz hio
              clear hz hio
              subst hs
              subst hbb
              go_wp2_with fail
              go_roundw
              case rel => exact ⟨2, by omega, rfl, HS.out⟩
              case measure => simp [intOf]
      · go_upto_region 11 with (fail)
        go_cut [11, 12] (fun s t wc => s = .string s3 ∧ t = .bool b3 ∧ Held5 X Y (.int .i64 i) (.int .i64 (o : Int)) q1 q2 q3 V wc)
        case first =>
          go_region_held3 (fun we => Held5 X Y (.int .i64 i) (.int .i64 (o : Int)) q1 q2 q3 V we) (first | assumption | exact HS0.out.step ((Below.refl _ _).drew)) (first | (go_at_call 15; refine (HG3.out _).mono ?_; rintro e w6 ⟨rfl, hb6⟩; have hS := Held5.step (by assumption) hb6; clear hb6))
          go_wp2_with fail
          go_meet
          case rel => exact ⟨rfl, rfl, hS⟩
        case rest =>
          obtain ⟨rfl, rfl, hS⟩ := hcut
          have HS := Lib.hid hS
          obtain ⟨c0, c1, d0, d1, d2, -, -, -⟩ := hS
          by_cases hz : q3.size = 0
          · rw [empty_yes hz] at d2
            clear hz
            go_wp2_with fail
            go_roundw
            case rel => exact ⟨3, by omega, rfl, HS.out⟩
            case measure => simp [intOf]
          · obtain ⟨hie, hne⟩ := empty_no hz
            by_cases hio : i = (o : Int)
            · subst hio
              clear hz
              go_wp2_with fail
              go_roundw
              case rel => exact ⟨3, by omega, rfl, HS.out⟩
              case measure => simp [intOf]
            · have hio2 : (i == (o : Int)) = false := by simp [hio]
              have hio3 : (i != (o : Int)) = true := by simp [hio]
              obtain ⟨hs, hbb⟩ := HF3.out hz hio
              clear hz hio
              subst hs
              subst hbb
              go_wp2_with fail
              go_roundw
              case rel => exact ⟨3, by omega, rfl, HS.out⟩
              case measure => simp [intOf]
      · go_wp2_with fail
        go_meet
        case rel => exact HS0.out
  case rest =>
    have HS := Lib.hid hcut
    clear hcut
    obtain ⟨x4w, rfl⟩ : ∃ x : World, x = wc := ⟨_, rfl⟩
    obtain ⟨c0, c1, -⟩ := HS.out
    go_upto_if 126 with (first | (go_at_call 46; refine (H4.out _).mono ?_; rintro e w6 ⟨rfl, hb6⟩))
    have hS1 := HS.out.step hb6
    have HS1 := Lib.hid hS1
    clear c0 c1 hb6
    go_cut [] (fun wc => Held5 X Y (.int .i64 i) (.int .i64 (o : Int)) q1 q2 q3 V wc)
    case first =>
      by_cases hx : x4 = 0
      · by_cases hio : i ≤ (o : Int)
        · obtain ⟨ga, gi⟩ := HK4.out hx _ (.inl ⟨hio, rfl⟩)
          have HA := Lib.hid ga
          have HI := Lib.hid gi
          have hd : decide (i ≤ (o : Int)) = true := decide_eq_true hio
          clear ga gi hio
          subst hx
          obtain ⟨c0, c1, -⟩ := hS1
          go_wp2_with (first | (go_at_call 15; ((with_reducible refine (HA.out _).mono ?_); rintro e w7 ⟨rfl, hb7⟩; obtain ⟨c0, c1, -⟩ := HS1.out.step hb7)) | (go_at_call 15; ((with_reducible refine (HI.out _).mono ?_); rintro e w8 ⟨rfl, hb8⟩)))
          go_meet
          case rel => exact (HS1.out.step hb7).step hb8
        · have hio2 : (o : Int) < i := by omega
          obtain ⟨ga, gi⟩ := HK4.out hx _ (.inr ⟨hio2, rfl⟩)
          have HA := Lib.hid ga
          have HI := Lib.hid gi
          have hd : decide (i ≤ (o : Int)) = false := decide_eq_false hio
          clear ga gi hio
          subst hx
          obtain ⟨c0, c1, -⟩ := hS1
          go_wp2_with (first | (go_at_call 15; ((with_reducible refine (HA.out _).mono ?_); rintro e w7 ⟨rfl, hb7⟩; obtain ⟨c0, c1, -⟩ := HS1.out.step hb7)) | (go_at_call 15; ((with_reducible refine (HI.out _).mono ?_); rintro e w8 ⟨rfl, hb8⟩)))
          go_meet
          case rel => exact (HS1.out.step hb7).step hb8
      · have hx2 : (x4 == 0) = false := by simp [hx]
        clear hx hS1
        go_wp2_with fail
        go_meet
        case rel => exact HS1.out
    case rest =>
      have HT := Lib.hid hcut
      clear hcut hS1
      obtain ⟨x5w, rfl⟩ : ∃ x : World, x = wc := ⟨_, rfl⟩
      obtain ⟨c0, c1, -⟩ := HT.out
      go_upto_region 24 with (first | (go_at_call 50; refine (H5.out _).mono ?_; rintro e w6 ⟨rfl, hb6⟩))
      have HS2 := Lib.hid (HT.out.step hb6)
      have hbV := HB.out
      clear c0 c1 hb6
      obtain ⟨c0, c1, -⟩ := HS2.out
      by_cases hx : x5 = 0
      · by_cases hio : i < (o : Int)
        · have HA := Lib.hid (HK5.out hx _ (.inl ⟨hio, rfl⟩))
          have hd : decide (i < (o : Int)) = true := decide_eq_true hio
          have hio2 : (i == (o : Int)) = false := by simp; omega
          have hio3 : (i != (o : Int)) = true := by simp; omega
          have ho2 : (1 : Int) ≤ (o : Int) ∨ i < 0 := by omega
          clear hio
          subst hx
          go_wp2_with (first | (go_at_call 15; ((with_reducible refine (HA.out _).mono ?_); rintro e w7 ⟨rfl, hb7⟩)) | (go_at_call 14; refine (HW.out _).mono ?_; rintro e w9 ⟨rfl, hb9⟩))
          go_ret
          exact ⟨rfl, andThen (andThen (hbV.trans (HS2.out.2.2.2.2.2.2.2.mono hbV.size)) hb7) hb9⟩
        · by_cases hio4 : (o : Int) < i
          · have HA := Lib.hid (HK5.out hx _ (.inr ⟨hio4, rfl⟩))
            have hd : decide (i < (o : Int)) = false := decide_eq_false hio
            have hio2 : (i == (o : Int)) = false := by simp; omega
            have hio3 : (i != (o : Int)) = true := by simp; omega
            clear hio hio4
            subst hx
            go_wp2_with (first | (go_at_call 15; ((with_reducible refine (HA.out _).mono ?_); rintro e w7 ⟨rfl, hb7⟩)) | (go_at_call 14; refine (HW.out _).mono ?_; rintro e w9 ⟨rfl, hb9⟩))
            go_ret
            exact ⟨rfl, andThen (andThen (hbV.trans (HS2.out.2.2.2.2.2.2.2.mono hbV.size)) hb7) hb9⟩
          · obtain rfl : i = (o : Int) := by omega
            clear hio hio4
            subst hx
            go_wp2_with (first | (go_at_call 14; refine (HW.out _).mono ?_; rintro e w9 ⟨rfl, hb9⟩))
            go_ret
            exact ⟨rfl, andThen (hbV.trans (HS2.out.2.2.2.2.2.2.2.mono hbV.size)) hb9⟩
      · have hx2 : (x5 == 0) = false := by simp [hx]
        clear hx
        go_wp2_with (first | (go_at_call 14; refine (HW.out _).mono ?_; rintro e w9 ⟨rfl, hb9⟩))
        go_ret
        exact ⟨rfl, andThen (hbV.trans (HS2.out.2.2.2.2.2.2.2.mono hbV.size)) hb9⟩
end Go.Proofs.Ytgbihdlahghonaa
