/- The walk of PageBack. -/
import Derived.Test.YtgbihdlahghonaaPagePlain7
import Derived.Test.YtgbihdlahghonaaPageLawA
namespace Go.Proofs.Ytgbihdlahghonaa
open Go.RowKit

set_option maxRecDepth 100000 in
set_option maxHeartbeats 8000000 in
theorem backs_any (p : ByteArray) (i : Int) (r : ByteArray) (hp : p.size ≤ 140737488355328) (hr : r.size ≤ 140737488355328) (w : World) :
    Calls Try.prog 8 #[.string p, .int .i64 i, .string r] w fun e w' => e = .returned (.bool true) ∧ Below w.heap.size w w' := by
  have HW := Lib.hid (fun W => awake_any W)
  by_cases hlong : 600 < p.size
  · have h600 : (600 : Int) < (p.size : Int) := by omega
    clear hlong
    go_enter Try.func8, Try.ntmps8
    go_wp2_with (first | (go_at_call 14; refine (HW.out _).mono ?_; rintro e w1 ⟨rfl, hb1⟩))
    go_ret
    exact ⟨rfl, hb1⟩
  have h600 : (p.size : Int) ≤ 600 := by omega
  have hm : p.size ≤ 1048576 := by omega
  by_cases hlong2 : 600 < r.size
  · have h601 : (600 : Int) < (r.size : Int) := by omega
    clear hlong hlong2
    go_enter Try.func8, Try.ntmps8
    go_wp2_with (first | (go_at_call 14; refine (HW.out _).mono ?_; rintro e w1 ⟨rfl, hb1⟩))
    go_ret
    exact ⟨rfl, hb1⟩
  have h601 : (r.size : Int) ≤ 600 := by omega
  have HR := Lib.hid (fun W => right_any p hm W)
  cases hb : isPg p with
  | false =>
    rw [hb] at HR
    clear hlong hlong2 hb
    go_enter Try.func8, Try.ntmps8
    go_wp2_with (first | (go_at_call 14; refine (HW.out _).mono ?_; rintro e w1 ⟨rfl, hb1⟩) | (go_at_call 17; refine (HR.out _).mono ?_; rintro e w2 ⟨rfl, hb2⟩))
    go_ret
    exact ⟨rfl, andThen hb2 hb1⟩
  | true =>
  rw [hb] at HR
  clear hlong hlong2
  have HG := Lib.hid (fun W => get_any_rec p i hm W)
  have HPl := Lib.hid (fun W => plain_any p hm W)
  change Hid (∀ W, Calls _ _ _ _ fun e w' => e = .returned (.string (plB p)) ∧ _) at HPl
  have HK := Lib.hid (fun W => kind_any p hm W)
  have HL := Lib.hid (fun W => lsn_any p hm W)
  have HN := Lib.hid (fun W => link_any p hm W)
  have H1 := Lib.hid (fun W => pput_any p i r hm W)
  have H2 := Lib.hid (fun W => pcut_any p i hm W)
  have H3 := Lib.hid (fun W => pset_any p i r hm W)
  have H4 := Lib.hid (fun W => padd_any p i r hm W)
  have H5 := Lib.hid (fun W => pdel_any p i hm W)
  have B1 : ∀ q, putO p i r = (q, 0) → (Pg.slotAt (leafP p).recs i).size = 0 ∧ ∀ W, Calls Try.prog 48 #[.string q, .int .i64 i] W fun e w' => e = .returned (outV (plB p, 0)) ∧ Below W.heap.size W w' := fun q h => by
    obtain ⟨a, b, c⟩ := back1 h
    exact ⟨a, fun W => by have := pcut_any q i (by omega) W; rwa [c] at this⟩
  have B2 : ∀ q, cutO p i = (q, 0) → (Pg.slotAt (leafP p).recs i).size ≠ 0 ∧ ∀ W, Calls Try.prog 35 #[.string q, .int .i64 i, .string (Pg.slotAt (leafP p).recs i)] W fun e w' => e = .returned (outV (plB p, 0)) ∧ Below W.heap.size W w' := fun q h => by
    obtain ⟨a, b, c⟩ := back2 h
    exact ⟨a, fun W => by have := pput_any q i (Pg.slotAt (leafP p).recs i) (by omega) W; rwa [c] at this⟩
  have B3 : ∀ q, setO p i r = (q, 0) → (Pg.slotAt (leafP p).recs i).size ≠ 0 ∧ (∀ W, Calls Try.prog 44 #[.string q, .int .i64 i, .string (Pg.slotAt (leafP p).recs i)] W fun e w' => e = .returned (outV (plB p, 0)) ∧ Below W.heap.size W w')
      ∧ (∀ W, Calls Try.prog 21 #[.string q] W fun e w' => e = .returned (.int .i64 ((leafP p).lsn : Nat)) ∧ Below W.heap.size W w')
      ∧ (∀ W, Calls Try.prog 19 #[.string q] W fun e w' => e = .returned (.int .i64 ((leafP p).kind : Nat)) ∧ Below W.heap.size W w')
      ∧ (∀ W, Calls Try.prog 23 #[.string q] W fun e w' => e = .returned (.int .i64 ((leafP p).link : Nat)) ∧ Below W.heap.size W w') := fun q h => by
    obtain ⟨a, b, c, d1, d2, d3⟩ := back3 h
    exact ⟨a, fun W => by have := pset_any q i (Pg.slotAt (leafP p).recs i) (by omega) W; rwa [c] at this, fun W => by have := lsn_any q (by omega) W; rwa [d1] at this, fun W => by have := kind_any q (by omega) W; rwa [d2] at this, fun W => by have := link_any q (by omega) W; rwa [d3] at this⟩
  have B4 : ∀ q, addO p i r = (q, 0) → ∀ W, Calls Try.prog 50 #[.string q, .int .i64 i] W fun e w' => e = .returned (outV (plB p, 0)) ∧ Below W.heap.size W w' := fun q h W => by
    obtain ⟨b, c⟩ := back4 h
    have := pdel_any q i (by omega) W; rwa [c] at this
  have B5 : ∀ q, delO p i = (q, 0) → ∀ W, Calls Try.prog 46 #[.string q, .int .i64 i, .string (Pg.slotAt (leafP p).recs i)] W fun e w' => e = .returned (outV (plB p, 0)) ∧ Below W.heap.size W w' := fun q h W => by
    obtain ⟨b, c⟩ := back5 h
    have := padd_any q i (Pg.slotAt (leafP p).recs i) (by omega) W; rwa [c] at this
  generalize putO p i r = o1 at H1 B1
  generalize cutO p i = o2 at H2 B2
  generalize setO p i r = o3 at H3 B3
  generalize addO p i r = o4 at H4 B4
  generalize delO p i = o5 at H5 B5
  generalize plB p = pl at HPl B1 B2 B3 B4 B5
  generalize Pg.slotAt (leafP p).recs i = was at HG B1 B2 B3 B5
  generalize (leafP p).lsn = n1 at HL B3
  generalize (leafP p).kind = n2 at HK B3
  generalize (leafP p).link = n3 at HN B3
  obtain ⟨q1, e1⟩ := o1
  obtain ⟨q2, e2⟩ := o2
  obtain ⟨q3, e3⟩ := o3
  obtain ⟨q4, e4⟩ := o4
  obtain ⟨q5, e5⟩ := o5
  obtain ⟨is, his⟩ : ∃ is, is = !decide (was.size = 0) := ⟨_, rfl⟩
  rw [← his] at HG
  have C1 := Lib.hid (show e1 = 0 → is = false ∧ _ from fun h => by obtain ⟨a, b⟩ := B1 q1 (by rw [h]); exact ⟨by rw [his, a]; rfl, b⟩)
  have C2 := Lib.hid (show e2 = 0 → is = true ∧ _ from fun h => by obtain ⟨a, b⟩ := B2 q2 (by rw [h]); exact ⟨by rw [his, decide_eq_false a]; rfl, b⟩)
  have C3 := Lib.hid (show e3 = 0 → is = true ∧ _ from fun h => by obtain ⟨a, b⟩ := B3 q3 (by rw [h]); exact ⟨by rw [his, decide_eq_false a]; rfl, b⟩)
  have C4 := Lib.hid (fun h : e4 = 0 => B4 q4 (by rw [h]))
  have C5 := Lib.hid (fun h : e5 = 0 => B5 q5 (by rw [h]))
  clear B1 B2 B3 B4 B5 his hb hp hr hm
  go_enter Try.func8, Try.ntmps8
  go_upto_if 57 with (first | (go_at_call 17; ((with_reducible refine (HR.out _).mono ?_); rintro e w1 ⟨rfl, hb1⟩)) | (go_at_call 15; ((with_reducible refine (HG.out _).mono ?_); rintro e w2 ⟨rfl, hb2⟩)) | (go_at_call 35; ((with_reducible refine (H1.out _).mono ?_); rintro e w3 ⟨rfl, hb3⟩)))
  go_cut [] (fun wc => Below w.heap.size w wc)
  case first =>
    by_cases he : e1 = 0
    · obtain ⟨hi, K⟩ := C1.out he
      have HKK := Lib.hid K
      clear K
      subst he
      subst hi
      go_wp2_with (first | (go_at_call 48; ((with_reducible refine (HKK.out _).mono ?_); rintro e w4 ⟨rfl, hb4⟩)) | (go_at_call 36; ((with_reducible refine (HPl.out _).mono ?_); rintro e w5 ⟨rfl, hb5⟩)))
      go_meet
      case rel => exact andThen (andThen (andThen (andThen hb1 hb2) hb3) hb4) hb5
    · have hef : (e1 == 0) = false := by simp [he]
      clear he
      go_wp2_with fail
      go_meet
      case rel => exact andThen (andThen hb1 hb2) hb3
  case rest =>
    obtain ⟨x1, rfl⟩ : ∃ x1 : World, x1 = wc := ⟨_, rfl⟩
    have b1 : Below w.heap.size w x1 := hcut
    clear hcut
    go_upto_if 82 with (first | (go_at_call 48; ((with_reducible refine (H2.out _).mono ?_); rintro e w3 ⟨rfl, hb3⟩)))
    go_cut [] (fun wc => Below w.heap.size w wc)
    case first =>
      by_cases he : e2 = 0
      · obtain ⟨hi, K⟩ := C2.out he
        have HKK := Lib.hid K
        clear K
        subst he
        subst hi
        go_wp2_with (first | (go_at_call 35; ((with_reducible refine (HKK.out _).mono ?_); rintro e w4 ⟨rfl, hb4⟩)) | (go_at_call 36; ((with_reducible refine (HPl.out _).mono ?_); rintro e w5 ⟨rfl, hb5⟩)))
        go_meet
        case rel => exact andThen (andThen (andThen (b1) hb3) hb4) hb5
      · have hef : (e2 == 0) = false := by simp [he]
        clear he
        go_wp2_with fail
        go_meet
        case rel => exact andThen (b1) hb3
    case rest =>
      obtain ⟨x2, rfl⟩ : ∃ x2 : World, x2 = wc := ⟨_, rfl⟩
      have b2 : Below w.heap.size w x2 := hcut
      clear hcut
      go_upto_if 110 with (first | (go_at_call 44; ((with_reducible refine (H3.out _).mono ?_); rintro e w3 ⟨rfl, hb3⟩)))
      go_cut [] (fun wc => Below w.heap.size w wc)
      case first =>
        by_cases he : e3 = 0
        · obtain ⟨hi, K, K1, K2, K3⟩ := C3.out he
          have HKK := Lib.hid K
          have HK1 := Lib.hid K1
          have HK2 := Lib.hid K2
          have HK3 := Lib.hid K3
          clear K K1 K2 K3
          subst he
          subst hi
          go_wp2_with (first | (go_at_call 44; ((with_reducible refine (HKK.out _).mono ?_); rintro e w4 ⟨rfl, hb4⟩)) | (go_at_call 36; ((with_reducible refine (HPl.out _).mono ?_); rintro e w5 ⟨rfl, hb5⟩)) | (go_at_call 21; ((with_reducible refine (HK1.out _).mono ?_); rintro e w6 ⟨rfl, hb6⟩)) | (go_at_call 21; ((with_reducible refine (HL.out _).mono ?_); rintro e w7 ⟨rfl, hb7⟩)) | (go_at_call 23; ((with_reducible refine (HK3.out _).mono ?_); rintro e w8 ⟨rfl, hb8⟩)) | (go_at_call 23; ((with_reducible refine (HN.out _).mono ?_); rintro e w9 ⟨rfl, hb9⟩)) | (go_at_call 19; ((with_reducible refine (HK2.out _).mono ?_); rintro e w10 ⟨rfl, hb10⟩)) | (go_at_call 19; ((with_reducible refine (HK.out _).mono ?_); rintro e w11 ⟨rfl, hb11⟩)))
          go_meet
          case rel => exact andThen (andThen (andThen (andThen (andThen (andThen (andThen (andThen (andThen (b2) hb3) hb4) hb5) hb6) hb7) hb8) hb9) hb10) hb11
        · have hef : (e3 == 0) = false := by simp [he]
          clear he
          go_wp2_with fail
          go_meet
          case rel => exact andThen (b2) hb3
      case rest =>
        obtain ⟨x3, rfl⟩ : ∃ x3 : World, x3 = wc := ⟨_, rfl⟩
        have b3 : Below w.heap.size w x3 := hcut
        clear hcut
        go_upto_if 159 with (first | (go_at_call 46; ((with_reducible refine (H4.out _).mono ?_); rintro e w3 ⟨rfl, hb3⟩)))
        go_cut [] (fun wc => Below w.heap.size w wc)
        case first =>
          by_cases he : e4 = 0
          · have K := C4.out he
            have HKK := Lib.hid K
            clear K
            subst he
            go_wp2_with (first | (go_at_call 50; ((with_reducible refine (HKK.out _).mono ?_); rintro e w4 ⟨rfl, hb4⟩)) | (go_at_call 36; ((with_reducible refine (HPl.out _).mono ?_); rintro e w5 ⟨rfl, hb5⟩)))
            go_meet
            case rel => exact andThen (andThen (andThen (b3) hb3) hb4) hb5
          · have hef : (e4 == 0) = false := by simp [he]
            clear he
            go_wp2_with fail
            go_meet
            case rel => exact andThen (b3) hb3
        case rest =>
          obtain ⟨x4, rfl⟩ : ∃ x4 : World, x4 = wc := ⟨_, rfl⟩
          have b4 : Below w.heap.size w x4 := hcut
          clear hcut
          go_upto_if 181 with (first | (go_at_call 50; ((with_reducible refine (H5.out _).mono ?_); rintro e w3 ⟨rfl, hb3⟩)))
          go_cut [] (fun wc => Below w.heap.size w wc)
          case first =>
            by_cases he : e5 = 0
            · have K := C5.out he
              have HKK := Lib.hid K
              clear K
              subst he
              go_wp2_with (first | (go_at_call 46; ((with_reducible refine (HKK.out _).mono ?_); rintro e w4 ⟨rfl, hb4⟩)) | (go_at_call 36; ((with_reducible refine (HPl.out _).mono ?_); rintro e w5 ⟨rfl, hb5⟩)))
              go_meet
              case rel => exact andThen (andThen (andThen (b4) hb3) hb4) hb5
            · have hef : (e5 == 0) = false := by simp [he]
              clear he
              go_wp2_with fail
              go_meet
              case rel => exact andThen (b4) hb3
          case rest =>
            obtain ⟨x5, rfl⟩ : ∃ x5 : World, x5 = wc := ⟨_, rfl⟩
            have b5 : Below w.heap.size w x5 := hcut
            clear hcut
            go_wp2_with (first | (go_at_call 14; refine (HW.out _).mono ?_; rintro e w1 ⟨rfl, hb1⟩))
            go_ret
            exact ⟨rfl, andThen b5 hb1⟩
end Go.Proofs.Ytgbihdlahghonaa
