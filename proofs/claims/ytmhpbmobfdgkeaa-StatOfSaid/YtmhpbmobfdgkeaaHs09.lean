/- The walk over the reference of statistics: sorted. -/
import Derived.Test.YtmhpbmobfdgkeaaHs08
namespace Go.Proofs.Ytmhpbmobfdgkeaa
open Go.RowKit
theorem own_some {k : Nat} {e : TypeId} {B n : Nat} {w : World} {v : Value} {xs : List Value} (h : w.ownsRow B e k v n xs) (hn : 0 < n) : ∃ g c, v = .slice (some ⟨g, 0, none⟩) n c := by
  rcases h.2 with ⟨_, h0⟩ | ⟨g, cap, cur, hv, _⟩
  · omega
  · exact ⟨g, cap, hv⟩
theorem own_ins {α : Type} {enc : α → List Value} {k : Nat} {e : TypeId} {B : Nat} {w : World} {v : Value} {l : List α} {x : α} {j : Nat} (hj : j ≤ l.length) (h : w.ownsRow B e k v (j + 1 + (l.length - j)) ((l.take j).flatMap enc ++ enc x ++ (l.drop j).flatMap enc)) : OwnL enc k e B w v (l.take j ++ x :: l.drop j) := by
  have e1 : (l.take j ++ x :: l.drop j).length = j + 1 + (l.length - j) := by rw [List.length_append, List.length_take, List.length_cons, List.length_drop]; omega
  have e2 : (l.take j ++ x :: l.drop j).flatMap enc = (l.take j).flatMap enc ++ enc x ++ (l.drop j).flatMap enc := by rw [List.flatMap_append, List.flatMap_cons, List.append_assoc]
  unfold OwnL
  rw [e1, e2]
  exact h
theorem reads_drop {α : Type} {enc : α → List Value} {k : Nat} {w : World} {b c : Nat} {l : List α} (hk : ∀ x, (enc x).length = k) (h : Reads w (some ⟨b, 0, none⟩) c l.length (l.flatMap enc)) (j : Nat) (hj : j ≤ l.length) (hc : l.length ≤ c) : Reads w (if c = j then (some ⟨b, 0, none⟩ : Option Addr) else some ⟨b, j * k, none⟩) (c - j) (l.length - j) ((l.drop j).flatMap enc) := fun h0 => by
  obtain ⟨b', off, e, h1, h2, h3⟩ := h (by omega)
  injection e with e
  injection e with e1 e2
  subst e1 e2
  refine ⟨b, j * k, by rw [if_neg (by omega)], by omega, h2, fun t v ht => ?_⟩
  have h4 : l.flatMap enc = (l.take j).flatMap enc ++ (l.drop j).flatMap enc := by rw [← List.flatMap_append, List.take_append_drop]
  have h5 : ((l.take j).flatMap enc).length = j * k := by rw [flat_len hk, List.length_take, Nat.min_eq_left hj]
  have h6 := h3 (j * k + t) v (by rw [h4, List.getElem?_append_right (by omega), h5, Nat.add_sub_cancel_left]; exact ht)
  rwa [Nat.zero_add] at h6
theorem put_sorted (l : List Sp.Val) (k : Nat) (hk : k < l.length) (j : Nat) (h1 : ∀ t (ht : t < (Sp.sortO Sp.ordV (l.take k)).length), t < j → Sp.ordV (Sp.sortO Sp.ordV (l.take k))[t] l[k] ≤ 0) (h2 : ∀ ht : j < (Sp.sortO Sp.ordV (l.take k)).length, 0 < Sp.ordV (Sp.sortO Sp.ordV (l.take k))[j] l[k]) :
    Sp.sortO Sp.ordV (l.take (k + 1)) = (Sp.sortO Sp.ordV (l.take k)).take j ++ l[k] :: (Sp.sortO Sp.ordV (l.take k)).drop j := by
  obtain ⟨hu, hp⟩ := Sp.totV.put (Sp.totV.sort_up (l.take k)) (x := l[k]) (k := j) h1 (fun ht => by have := h2 ht; have := Sp.ordV_neg (Sp.sortO Sp.ordV (l.take k))[j] l[k]; omega)
  refine Sp.totV.sort_eq (hp.trans ?_) hu
  rw [Sp.take_snoc l k hk]
  exact ((Sp.sort_perm Sp.ordV (l.take k)).cons l[k]).trans (List.perm_append_singleton l[k] (l.take k)).symm
set_option maxRecDepth 100000 in
set_option maxHeartbeats 8000000 in
theorem rsorted_any (l : List Sp.Val) (hl : l.length ≤ 1000) (hv : ∀ v ∈ l, ValB v) (A : Option Addr) (c : Nat) (w : World) (hr : Reads w A c l.length (l.flatMap valC)) :
    Calls Try.prog 44 #[.slice A l.length c] w (fun e w' => ∃ v, e = .returned v ∧ OwnL valC 3 36 w.heap.size w' v (Sp.sortO Sp.ordV l) ∧ Below w.heap.size w w') := by
  have HR := Lib.hid hr
  have HV := Lib.hid hv
  clear hr hv
  obtain ⟨i0, hi0, hz0, hz1, hz2⟩ := info_parts info_val
  go_enter Try.func44, Try.ntmps44
  go_wp2_with fail
  have HO0 := Lib.hid (ownEmpty w 36 3)
  have HB0 := Lib.hid (allocB w (.cells #[] 36))
  generalize w.alloc (.cells #[] 36) = W0 at HO0 HB0 ⊢
  go_loopw [3, 4] (fun v i wr => ∃ k og oc : Nat, k ≤ l.length ∧ i = .int .i64 k ∧ v = .slice (some ⟨og, 0, none⟩) (Sp.sortO Sp.ordV (l.take k)).length oc ∧ OwnL valC 3 36 w.heap.size wr (.slice (some ⟨og, 0, none⟩) (Sp.sortO Sp.ordV (l.take k)).length oc) (Sp.sortO Sp.ordV (l.take k)) ∧ Below w.heap.size w wr) (fun _ i _ => l.length - (intOf i).toNat)
  case atStart => exact ⟨0, w.heap.size, 0, Nat.zero_le _, rfl, by simp [Sp.sortO], by rw [show Sp.sortO Sp.ordV (l.take 0) = [] from by simp [Sp.sortO]]; exact HO0.out, HB0.out⟩
  case round =>
    clear HO0 HB0
    obtain ⟨k, og, oc, hk, rfl, rfl, ho, hbw⟩ := hrel
    have HO := Lib.hid ho
    have HBW := Lib.hid hbw
    clear ho hbw
    have hk0 : (0 : Int) ≤ (k : Int) := by omega
    by_cases hlt : k < l.length
    · obtain ⟨b, off, rfl, hca, hbl, hcell⟩ := read_at valC_len (HR.out.below HBW.out) hlt
      have hki : (k : Int) < (l.length : Int) := by omega
      have hwk : IntKind.i64.wrap ((k : Int) + 1) = (k : Int) + 1 := IntWalk.i64_in _ (by omega)
      have HXB := Lib.hid (HV.out l[k] (List.getElem_mem hlt))
      have HPT := Lib.hid (put_sorted l k hlt)
      have HSB := Lib.hid (show ∀ y ∈ Sp.sortO Sp.ordV (l.take k), ValB y from fun y hy => HV.out y (List.mem_of_mem_take ((Sp.sort_perm Sp.ordV (l.take k)).mem_iff.1 hy)))
      have hSl : (Sp.sortO Sp.ordV (l.take k)).length = k := by rw [Sp.sort_len, List.length_take]; omega
      obtain ⟨S2, hS2⟩ : ∃ S2, S2 = Sp.sortO Sp.ordV (l.take (k + 1)) := ⟨_, rfl⟩
      rw [← hS2] at HPT
      have HS2 := Lib.hid hS2
      clear hS2
      generalize Sp.sortO Sp.ordV (l.take k) = S at HPT HSB hSl HO ⊢
      have HOD := Lib.hid (fun y (hy : y ∈ S) W => rorder_any y l[k] (HSB.out y hy).s HXB.out.s W)
      have HKX := Lib.hid (show ∀ u, Below wr.heap.size wr u → u.rangeAt b (off + k * 3) (valC l[k]) from fun u hu i v hi => by rw [hu.cell (p := ⟨b, off + k * 3 + i, none⟩) hbl]; exact hcell i v hi)
      generalize l[k] = x at HPT HOD HKX HXB
      clear hcell hca
      obtain ⟨ak, an, sa⟩ := x
      dsimp only [valA] at HOD
      have HSL := Lib.hid hSl
      have hsb : S.length ≤ 1000 := by omega
      clear hSl
      obtain ⟨w4, rfl⟩ : ∃ wm : World, wm = wr := ⟨_, rfl⟩
      go_wp2_with fail
      go_loopw [5] (fun i wq => ∃ j : Nat, j ≤ S.length ∧ i = .int .i64 j ∧ (∀ t (ht : t < S.length), t < j → Sp.ordV S[t] ⟨ak, an, sa⟩ ≤ 0) ∧ Below w4.heap.size w4 wq) (fun i _ => S.length - (intOf i).toNat)
      case atStart => exact ⟨0, Nat.zero_le _, rfl, fun _ _ h => absurd h (by omega), Below.refl _ _⟩
      case round =>
        obtain ⟨j, hj, rfl, hall, hbq⟩ := hrel
        have HBQ := Lib.hid hbq
        have HALL := Lib.hid hall
        clear hall hbq
        have hj0 : (0 : Int) ≤ (j : Int) := by omega
        have hwj : IntKind.i64.wrap ((j : Int) + 1) = (j : Int) + 1 := IntWalk.i64_in _ (by omega)
        go_upto_region 6 with fail
        go_cut [29] (fun q wc => ∃ t : Bool, q = .bool t ∧ (t = true → ∃ hj : j < S.length, Sp.ordV S[j] ⟨ak, an, sa⟩ ≤ 0) ∧ (t = false → ∀ hj : j < S.length, 0 < Sp.ordV S[j] ⟨ak, an, sa⟩) ∧ Below w4.heap.size w4 wc)
        case first =>
          by_cases hjl : j < S.length
          · have hown := ownBelow HO.out HBQ.out
            have hrg := own_range valC_len hown j hjl
            have hogl : og < wr.heap.size := by obtain ⟨_, _, h, _⟩ := own_blk hown; exact h
            have HODJ := Lib.hid (HOD.out S[j] (List.getElem_mem hjl))
            obtain ⟨o, hoe⟩ : ∃ o, o = Sp.ordV S[j] ⟨ak, an, sa⟩ := ⟨_, rfl⟩
            simp only [← hoe] at HODJ
            have HT1 := Lib.hid (show o ≤ 0 → ∃ hj : j < S.length, Sp.ordV S[j] ⟨ak, an, sa⟩ ≤ 0 from fun h => ⟨hjl, by rw [← hoe]; exact h⟩)
            have HT2 := Lib.hid (show ¬ o ≤ 0 → ∀ hj : j < S.length, 0 < Sp.ordV S[j] ⟨ak, an, sa⟩ from fun h _ => by rw [← hoe]; omega)
            clear hoe
            generalize S[j] = y at hrg HODJ
            obtain ⟨bk, bn, sb⟩ := y
            dsimp only [valA] at HODJ
            have HJ := Lib.hid (show ∀ u, Below wr.heap.size wr u → u.rangeAt og (j * 3) [.int .i64 bk, .int .i64 bn, .string sb] from fun u hu i v hi => by rw [hu.cell (p := ⟨og, j * 3 + i, none⟩) hogl]; exact hrg i v hi)
            have HK := Lib.hid (show ∀ u, Below wr.heap.size wr u → u.rangeAt b (off + k * 3) [.int .i64 ak, .int .i64 an, .string sa] from fun u hu => HKX.out u (joinB HBQ.out hu))
            have hjd : decide (j < S.length) = true := decide_eq_true hjl
            have hji : (j : Int) < (S.length : Int) := by omega
            clear hrg hown
            by_cases ho : o ≤ 0
            · have HF := Lib.hid (HT1.out ho)
              clear HT1 HT2
              have hSn : Below wr.heap.size wr wr.drew := (Below.refl _ wr).drew
              refine wp_region_held_drew (S := (fun u => Below wr.heap.size wr u)) (by kernel_rfl) ?_ (fun hHeld => ?_)
              · exact hSn
              generalize wr.drew = w9 at hSn ⊢
              refine tkW 0 (some 14) (v := ?_) rfl ?_ ?_
              rotate_left
              · intro u hSu; clear hSu; go_simp; (try with_reducible rfl)
              try simp only [Act.put, List.setIfInBounds_toArray, List.set_cons_zero, List.set_cons_succ]
              refine tkW 1 (some 15) (v := ?_) rfl ?_ ?_
              rotate_left
              · intro u hSu; clear hSu; go_simp; (try with_reducible rfl)
              try simp only [Act.put, List.setIfInBounds_toArray, List.set_cons_zero, List.set_cons_succ]
              refine tkW 2 (some 16) (v := ?_) rfl ?_ ?_
              rotate_left
              · intro u hSu; clear hSu; go_simp; (try with_reducible rfl)
              try simp only [Act.put, List.setIfInBounds_toArray, List.set_cons_zero, List.set_cons_succ]
              refine tkW 3 (some 17) (v := ?_) rfl ?_ ?_
              rotate_left
              · intro u hSu; clear hSu; go_simp; (try with_reducible rfl)
              try simp only [Act.put, List.setIfInBounds_toArray, List.set_cons_zero, List.set_cons_succ]
              refine tkW 4 (some 18) (v := ?_) rfl ?_ ?_
              rotate_left
              · intro u hSu; clear hSu; go_simp; (try with_reducible rfl)
              try simp only [Act.put, List.setIfInBounds_toArray, List.set_cons_zero, List.set_cons_succ]
              refine tkW 5 (some 19) (v := ?_) rfl ?_ ?_
              rotate_left
              · intro u hSu; clear hSu; go_simp; (try with_reducible rfl)
              try simp only [Act.put, List.setIfInBounds_toArray, List.set_cons_zero, List.set_cons_succ]
              refine tkW 6 (some 20) (v := ?_) rfl ?_ ?_
              rotate_left
              · intro u hSu; clear hSu; go_simp; (try with_reducible rfl)
              try simp only [Act.put, List.setIfInBounds_toArray, List.set_cons_zero, List.set_cons_succ]
              refine tkW 7 (some 21) (v := ?_) rfl ?_ ?_
              rotate_left
              · intro u hSu; clear hSu; go_simp; (try with_reducible rfl)
              try simp only [Act.put, List.setIfInBounds_toArray, List.set_cons_zero, List.set_cons_succ]
              refine tkV 8 (some 22) (v := .agg #[.int .i64 bk, .int .i64 bn, .string sb]) rfl (yieldsIf_load_mid (by rfl) 36 (.tmp 21) rfl og (j * 3) (by rfl) [.int .i64 bk, .int .i64 bn, .string sb] _ HJ.out Try.underlying36 (by kernel_rfl) (by kernel_rfl)) ?_
              try simp only [Act.put, List.setIfInBounds_toArray, List.set_cons_zero, List.set_cons_succ]
              refine tkW 9 (some 23) (v := ?_) rfl ?_ ?_
              rotate_left
              · intro u hSu; clear hSu; go_simp; (try with_reducible rfl)
              try simp only [Act.put, List.setIfInBounds_toArray, List.set_cons_zero, List.set_cons_succ]
              refine tkW 10 (some 24) (v := ?_) rfl ?_ ?_
              rotate_left
              · intro u hSu; clear hSu; go_simp; (try with_reducible rfl)
              try simp only [Act.put, List.setIfInBounds_toArray, List.set_cons_zero, List.set_cons_succ]
              refine tkW 11 (some 25) (v := ?_) rfl ?_ ?_
              rotate_left
              · intro u hSu; clear hSu; go_simp; (try with_reducible rfl)
              try simp only [Act.put, List.setIfInBounds_toArray, List.set_cons_zero, List.set_cons_succ]
              refine tkV 12 (some 26) (v := .agg #[.int .i64 ak, .int .i64 an, .string sa]) rfl (yieldsIf_load_mid (by rfl) 36 (.tmp 25) rfl b (off + k * 3) (by rfl) [.int .i64 ak, .int .i64 an, .string sa] _ HK.out Try.underlying36 (by kernel_rfl) (by kernel_rfl)) ?_
              try simp only [Act.put, List.setIfInBounds_toArray, List.set_cons_zero, List.set_cons_succ]
              refine rdH 13 (some 27) rfl (fun K hK => ?_)
              go_simp
              (with_reducible refine (HODJ.out _).mono ?_); rintro e w2 ⟨rfl, hg2⟩; have hSm := joinB hSn hg2.below; clear hSn hg2; have hSn := hSm; clear hSm
              refine hK.out _ _ ?_ (fun hHeld => ?_)
              · exact hSn
              clear hK K
              try simp only [Act.put, List.setIfInBounds_toArray, List.set_cons_zero, List.set_cons_succ]
              refine tkW 14 (some 28) (v := ?_) rfl ?_ ?_
              rotate_left
              · intro u hSu; clear hSu; go_simp; (try with_reducible rfl)
              try simp only [Act.put, List.setIfInBounds_toArray, List.set_cons_zero, List.set_cons_succ]
              refine tkW 15 (some 29) (v := ?_) rfl ?_ ?_
              rotate_left
              · intro u hSu; clear hSu; go_simp; (try with_reducible rfl)
              try simp only [Act.put, List.setIfInBounds_toArray, List.set_cons_zero, List.set_cons_succ]
              refine wpAnyH_done (by kernel_rfl) ?_ _
              clear hHeld
              go_wp2_with fail
              go_meet
              case rel => exact ⟨true, rfl, fun _ => HF.out, (fun h => by cases h), joinB HBQ.out hSn⟩
            · have HF := Lib.hid (HT2.out ho)
              clear HT1 HT2
              have hSn : Below wr.heap.size wr wr.drew := (Below.refl _ wr).drew
              refine wp_region_held_drew (S := (fun u => Below wr.heap.size wr u)) (by kernel_rfl) ?_ (fun hHeld => ?_)
              · exact hSn
              generalize wr.drew = w9 at hSn ⊢
              refine tkW 0 (some 14) (v := ?_) rfl ?_ ?_
              rotate_left
              · intro u hSu; clear hSu; go_simp; (try with_reducible rfl)
              try simp only [Act.put, List.setIfInBounds_toArray, List.set_cons_zero, List.set_cons_succ]
              refine tkW 1 (some 15) (v := ?_) rfl ?_ ?_
              rotate_left
              · intro u hSu; clear hSu; go_simp; (try with_reducible rfl)
              try simp only [Act.put, List.setIfInBounds_toArray, List.set_cons_zero, List.set_cons_succ]
              refine tkW 2 (some 16) (v := ?_) rfl ?_ ?_
              rotate_left
              · intro u hSu; clear hSu; go_simp; (try with_reducible rfl)
              try simp only [Act.put, List.setIfInBounds_toArray, List.set_cons_zero, List.set_cons_succ]
              refine tkW 3 (some 17) (v := ?_) rfl ?_ ?_
              rotate_left
              · intro u hSu; clear hSu; go_simp; (try with_reducible rfl)
              try simp only [Act.put, List.setIfInBounds_toArray, List.set_cons_zero, List.set_cons_succ]
              refine tkW 4 (some 18) (v := ?_) rfl ?_ ?_
              rotate_left
              · intro u hSu; clear hSu; go_simp; (try with_reducible rfl)
              try simp only [Act.put, List.setIfInBounds_toArray, List.set_cons_zero, List.set_cons_succ]
              refine tkW 5 (some 19) (v := ?_) rfl ?_ ?_
              rotate_left
              · intro u hSu; clear hSu; go_simp; (try with_reducible rfl)
              try simp only [Act.put, List.setIfInBounds_toArray, List.set_cons_zero, List.set_cons_succ]
              refine tkW 6 (some 20) (v := ?_) rfl ?_ ?_
              rotate_left
              · intro u hSu; clear hSu; go_simp; (try with_reducible rfl)
              try simp only [Act.put, List.setIfInBounds_toArray, List.set_cons_zero, List.set_cons_succ]
              refine tkW 7 (some 21) (v := ?_) rfl ?_ ?_
              rotate_left
              · intro u hSu; clear hSu; go_simp; (try with_reducible rfl)
              try simp only [Act.put, List.setIfInBounds_toArray, List.set_cons_zero, List.set_cons_succ]
              refine tkV 8 (some 22) (v := .agg #[.int .i64 bk, .int .i64 bn, .string sb]) rfl (yieldsIf_load_mid (by rfl) 36 (.tmp 21) rfl og (j * 3) (by rfl) [.int .i64 bk, .int .i64 bn, .string sb] _ HJ.out Try.underlying36 (by kernel_rfl) (by kernel_rfl)) ?_
              try simp only [Act.put, List.setIfInBounds_toArray, List.set_cons_zero, List.set_cons_succ]
              refine tkW 9 (some 23) (v := ?_) rfl ?_ ?_
              rotate_left
              · intro u hSu; clear hSu; go_simp; (try with_reducible rfl)
              try simp only [Act.put, List.setIfInBounds_toArray, List.set_cons_zero, List.set_cons_succ]
              refine tkW 10 (some 24) (v := ?_) rfl ?_ ?_
              rotate_left
              · intro u hSu; clear hSu; go_simp; (try with_reducible rfl)
              try simp only [Act.put, List.setIfInBounds_toArray, List.set_cons_zero, List.set_cons_succ]
              refine tkW 11 (some 25) (v := ?_) rfl ?_ ?_
              rotate_left
              · intro u hSu; clear hSu; go_simp; (try with_reducible rfl)
              try simp only [Act.put, List.setIfInBounds_toArray, List.set_cons_zero, List.set_cons_succ]
              refine tkV 12 (some 26) (v := .agg #[.int .i64 ak, .int .i64 an, .string sa]) rfl (yieldsIf_load_mid (by rfl) 36 (.tmp 25) rfl b (off + k * 3) (by rfl) [.int .i64 ak, .int .i64 an, .string sa] _ HK.out Try.underlying36 (by kernel_rfl) (by kernel_rfl)) ?_
              try simp only [Act.put, List.setIfInBounds_toArray, List.set_cons_zero, List.set_cons_succ]
              refine rdH 13 (some 27) rfl (fun K hK => ?_)
              go_simp
              (with_reducible refine (HODJ.out _).mono ?_); rintro e w2 ⟨rfl, hg2⟩; have hSm := joinB hSn hg2.below; clear hSn hg2; have hSn := hSm; clear hSm
              refine hK.out _ _ ?_ (fun hHeld => ?_)
              · exact hSn
              clear hK K
              try simp only [Act.put, List.setIfInBounds_toArray, List.set_cons_zero, List.set_cons_succ]
              refine tkW 14 (some 28) (v := ?_) rfl ?_ ?_
              rotate_left
              · intro u hSu; clear hSu; go_simp; (try with_reducible rfl)
              try simp only [Act.put, List.setIfInBounds_toArray, List.set_cons_zero, List.set_cons_succ]
              refine tkW 15 (some 29) (v := ?_) rfl ?_ ?_
              rotate_left
              · intro u hSu; clear hSu; go_simp; (try with_reducible rfl)
              try simp only [Act.put, List.setIfInBounds_toArray, List.set_cons_zero, List.set_cons_succ]
              refine wpAnyH_done (by kernel_rfl) ?_ _
              clear hHeld
              go_wp2_with fail
              go_meet
              case rel => exact ⟨false, rfl, (fun h => by cases h), fun _ => HF.out, joinB HBQ.out hSn⟩
          · have hjd : decide (j < S.length) = false := decide_eq_false hjl
            have hji : ¬ (j : Int) < (S.length : Int) := by omega
            have HF := Lib.hid hjl
            have hSn : Below wr.heap.size wr wr.drew := (Below.refl _ wr).drew
            refine wp_region_held_drew (S := (fun u => Below wr.heap.size wr u)) (by kernel_rfl) ?_ (fun hHeld => ?_)
            · exact hSn
            generalize wr.drew = w9 at hSn ⊢
            refine tkW 0 (some 14) (v := ?_) rfl ?_ ?_
            rotate_left
            · intro u hSu; clear hSu; go_simp; (try with_reducible rfl)
            try simp only [Act.put, List.setIfInBounds_toArray, List.set_cons_zero, List.set_cons_succ]
            refine tkW 1 (some 15) (v := ?_) rfl ?_ ?_
            rotate_left
            · intro u hSu; clear hSu; go_simp; (try with_reducible rfl)
            try simp only [Act.put, List.setIfInBounds_toArray, List.set_cons_zero, List.set_cons_succ]
            refine tkW 2 (some 16) (v := ?_) rfl ?_ ?_
            rotate_left
            · intro u hSu; clear hSu; go_simp; (try with_reducible rfl)
            try simp only [Act.put, List.setIfInBounds_toArray, List.set_cons_zero, List.set_cons_succ]
            refine tkW 3 (some 17) (v := ?_) rfl ?_ ?_
            rotate_left
            · intro u hSu; clear hSu; go_simp; (try with_reducible rfl)
            try simp only [Act.put, List.setIfInBounds_toArray, List.set_cons_zero, List.set_cons_succ]
            refine tkW 4 (some 18) (v := ?_) rfl ?_ ?_
            rotate_left
            · intro u hSu; clear hSu; go_simp; (try with_reducible rfl)
            try simp only [Act.put, List.setIfInBounds_toArray, List.set_cons_zero, List.set_cons_succ]
            refine tkO 5 (some 19) rfl ?_
            try simp only [Act.put, List.setIfInBounds_toArray, List.set_cons_zero, List.set_cons_succ]
            refine tkO 6 (some 20) rfl ?_
            try simp only [Act.put, List.setIfInBounds_toArray, List.set_cons_zero, List.set_cons_succ]
            refine tkO 7 (some 21) rfl ?_
            try simp only [Act.put, List.setIfInBounds_toArray, List.set_cons_zero, List.set_cons_succ]
            refine tkO 8 (some 22) rfl ?_
            try simp only [Act.put, List.setIfInBounds_toArray, List.set_cons_zero, List.set_cons_succ]
            refine tkO 9 (some 23) rfl ?_
            try simp only [Act.put, List.setIfInBounds_toArray, List.set_cons_zero, List.set_cons_succ]
            refine tkO 10 (some 24) rfl ?_
            try simp only [Act.put, List.setIfInBounds_toArray, List.set_cons_zero, List.set_cons_succ]
            refine tkO 11 (some 25) rfl ?_
            try simp only [Act.put, List.setIfInBounds_toArray, List.set_cons_zero, List.set_cons_succ]
            refine tkO 12 (some 26) rfl ?_
            try simp only [Act.put, List.setIfInBounds_toArray, List.set_cons_zero, List.set_cons_succ]
            refine tkO 13 (some 27) rfl ?_
            try simp only [Act.put, List.setIfInBounds_toArray, List.set_cons_zero, List.set_cons_succ]
            refine tkO 14 (some 28) rfl ?_
            try simp only [Act.put, List.setIfInBounds_toArray, List.set_cons_zero, List.set_cons_succ]
            refine tkW 15 (some 29) (v := ?_) rfl ?_ ?_
            rotate_left
            · intro u hSu; clear hSu; go_simp; (try with_reducible rfl)
            try simp only [Act.put, List.setIfInBounds_toArray, List.set_cons_zero, List.set_cons_succ]
            refine wpAnyH_done (by kernel_rfl) ?_ _
            clear hHeld
            go_wp2_with fail
            go_meet
            case rel => exact ⟨false, rfl, (fun h => by cases h), (fun _ hj => absurd hj HF.out), joinB HBQ.out hSn⟩
        case rest =>
          obtain ⟨t, rfl, ht1, ht2, hbc⟩ := hcut
          cases t with
          | true =>
            obtain ⟨hjl, hle⟩ := ht1 rfl
            have HG := Lib.hid (show ∀ t (ht : t < S.length), t < j + 1 → Sp.ordV S[t] ⟨ak, an, sa⟩ ≤ 0 from fun t ht htj => by
              rcases Nat.lt_or_eq_of_le (Nat.le_of_lt_succ htj) with h5 | h5
              · exact HALL.out t ht h5
              · subst h5; exact hle)
            clear ht1 ht2 hle
            go_wp2_with fail
            go_roundw
            case rel => exact ⟨j + 1, by omega, by go_num, HG.out, hbc⟩
            case measure => simp [intOf]; omega
          | false =>
            have HE := Lib.hid (HPT.out j HALL.out (ht2 rfl))
            clear ht1 ht2
            have HOC := Lib.hid (ownBelow HO.out hbc)
            have HBC := Lib.hid (HBW.out.trans (hbc.mono HBW.out.size))
            obtain ⟨_, _, hogl, _, hcl, hcm, _, _⟩ := own_blk HOC.out
            have HA8 := Lib.hid (allocB wc (.cells #[] 36))
            have HT8 := Lib.hid ((reads_take valC_len (own_reads HOC.out) j hj).below HA8.out)
            have HD8 := Lib.hid (reads_drop valC_len (own_reads HOC.out) j hj hcl)
            skip
            have hji : (j : Int) ≤ (S.length : Int) := by omega
            have hjc : (j : Int) ≤ (oc : Int) := by omega
            have hsc : (S.length : Int) ≤ (oc : Int) := by omega
            have hmx : oc ≤ maxLen := hcm
            clear hogl hcm
            go_wp2_with (first | (at_builtin; refine listWants (by kernel_rfl) fun K hK => wp_appR (wc.alloc (.cells #[] 36)) (.tmp 32) (.tmp 35) 32 36 i0 (.agg (valA Sp.nullV)) 3 32 Try.underlying32 hi0 hz0 hz1 hz2 rfl (by omega) rfl wc.heap.size _ 0 [] rfl (ownEmpty wc 36 3) (some ⟨og, 0, none⟩) j oc ((S.take j).flatMap valC) rfl HT8.out (by rw [flat_len valC_len, List.length_take, Nat.min_eq_left hj]) (valC_all _) (by omega) (by omega) HA8.out.size ?_; intro v5 w5 ho5 hg5 hb5; rw [List.nil_append, Nat.zero_add] at ho5; have HB5 := Lib.hid (HA8.out.trans hb5); clear hg5 hb5; obtain ⟨A5, c5, rfl⟩ := ownLen ho5; have HO5 := Lib.hid ho5; clear ho5; have HX5 := Lib.hid (show w5.rangeAt b (off + k * 3) [.int .i64 ak, .int .i64 an, .string sa] from HKX.out w5 (joinB hbc HB5.out)); refine hK _ _ ?_) | (with_reducible refine listWants (by kernel_rfl) fun K hK => wp_load_mid 36 (.tmp 40) rfl b (off + k * 3) rfl [.int .i64 ak, .int .i64 an, .string sa] _ HX5.out Try.underlying36 (by kernel_rfl) (by kernel_rfl) (hK _ _ ?_)) | (at_builtin; refine wpList_push (by kernel_rfl) (.tmp 37) (.tmp 42) 32 36 Try.underlying32 info_val rfl (by omega) (by omega) rfl wc.heap.size _ j ((S.take j).flatMap valC) rfl (ownBelow HO5.out (allocB _ _)) w5.heap.size (valC ⟨ak, an, sa⟩) 36 rfl (heap_alloc_new w5 _) rfl (valC_one _) (by omega) (Nat.le_trans HB5.out.size (allocB w5 _).size) ?_; intro v7 w7 ho7 hg7 hb7; have HB7 := Lib.hid (HB5.out.trans (((allocB w5 _).mono HB5.out.size).trans hb7)); clear hg7 hb7; obtain ⟨A7, c7, rfl⟩ := ownLen ho7; have HO7 := Lib.hid ho7; clear ho7; have HD7 := Lib.hid (HD8.out.below (HB7.out))) | (at_builtin; refine listWants (by kernel_rfl) fun K hK => wp_appR w7 (.tmp 44) (.tmp 47) 32 36 i0 (.agg (valA Sp.nullV)) 3 32 Try.underlying32 hi0 hz0 hz1 hz2 rfl (by omega) rfl wc.heap.size _ (j + 1) _ rfl HO7.out (if oc = j then (some ⟨og, 0, none⟩ : Option Addr) else some ⟨og, j * 3, none⟩) (S.length - j) (oc - j) ((S.drop j).flatMap valC) rfl HD7.out (by rw [flat_len valC_len, List.length_drop]) (valC_all _) (by omega) (by omega) HB7.out.size ?_; intro v9 w9 ho9 hg9 hb9; have HB9 := Lib.hid (HB7.out.trans hb9); clear hg9 hb9; have HI := Lib.hid (own_ins hj ho9); clear ho9; refine hK _ _ ?_))
            go_roundw
            case rel =>
              have ho := HI.out
              rw [← HE.out, HS2.out] at ho
              obtain ⟨og2, oc2, rfl⟩ := own_some ho (by rw [Sp.sort_len, List.length_take]; omega)
              exact ⟨k + 1, og2, oc2, by omega, by go_num, rfl, ownMono ho HBC.out.size, HBC.out.trans (HB9.out.mono HBC.out.size)⟩
            case measure => simp [intOf]; omega
    · obtain rfl : k = l.length := by omega
      go_wp2_with fail
      go_ret
      exact ⟨_, rfl, by have h := HO.out; rw [List.take_length] at h; rw [List.take_length]; exact h, HBW.out⟩
end Go.Proofs.Ytmhpbmobfdgkeaa
/- The walk over the reference of statistics: common. -/
namespace Go.Proofs.Ytmhpbmobfdgkeaa
open Go.RowKit
/-- The commonest of the first k counted values, all of them. -/
def comK (Q : List Sp.Oft) (k : Nat) : List Sp.Oft := Sp.sortO Sp.ordO (Sp.oftF (Q.take k))
theorem oft_snoc (Q : List Sp.Oft) (k : Nat) (hk : k < Q.length) : (Q[k].n < 2 → Sp.oftF (Q.take (k + 1)) = Sp.oftF (Q.take k)) ∧ (¬ Q[k].n < 2 → Sp.oftF (Q.take (k + 1)) = Sp.oftF (Q.take k) ++ [Q[k]]) := by
  unfold Sp.oftF
  rw [Sp.take_snoc Q k hk, List.filter_append]
  exact ⟨fun h => by rw [List.filter_cons_of_neg (by simpa using h)]; simp, fun h => by rw [List.filter_cons_of_pos (by simpa using h)]; rfl⟩
theorem put_common (Q : List Sp.Oft) (k : Nat) (hk : k < Q.length) (h0 : ¬ Q[k].n < 2) (j : Nat) (h1 : ∀ t (ht : t < (comK Q k).length), t < j → Sp.ordO (comK Q k)[t] Q[k] < 0) (h2 : ∀ ht : j < (comK Q k).length, ¬ Sp.ordO (comK Q k)[j] Q[k] < 0) :
    comK Q (k + 1) = (comK Q k).take j ++ Q[k] :: (comK Q k).drop j := by
  unfold comK at *
  obtain ⟨hu, hp⟩ := Sp.totO.put (Sp.totO.sort_up (Sp.oftF (Q.take k))) (x := Q[k]) (k := j) (fun t ht htj => by have := h1 t ht htj; omega) (fun ht => by have := h2 ht; have := Sp.ordO_neg (Sp.sortO Sp.ordO (Sp.oftF (Q.take k)))[j] Q[k]; omega)
  refine Sp.totO.sort_eq (hp.trans ?_) hu
  rw [(oft_snoc Q k hk).2 h0]
  exact ((Sp.sort_perm Sp.ordO (Sp.oftF (Q.take k))).cons Q[k]).trans (List.perm_append_singleton Q[k] (Sp.oftF (Q.take k))).symm
theorem comK_mem {Q : List Sp.Oft} {k : Nat} {y : Sp.Oft} (h : y ∈ comK Q k) : y ∈ Q := List.mem_of_mem_take (List.mem_filter.1 ((Sp.sort_perm Sp.ordO (Sp.oftF (Q.take k))).mem_iff.1 h)).1
theorem comK_len (Q : List Sp.Oft) (k : Nat) : (comK Q k).length ≤ k := by
  unfold comK
  rw [Sp.sort_len]
  exact Nat.le_trans (List.length_filter_le _ _) (by rw [List.length_take]; omega)
set_option maxRecDepth 100000 in
set_option maxHeartbeats 8000000 in
theorem rcommon_any (l : List Sp.Val) (hl : l.length ≤ 1000) (hu : Sp.Up Sp.ordV l) (hv : ∀ v ∈ l, ValB v) (A : Option Addr) (c : Nat) (w : World) (hr : Reads w A c l.length (l.flatMap valC)) :
    Calls Try.prog 48 #[.slice A l.length c] w (fun e w' => ∃ A' c', e = .returned (.slice A' (Sp.comV (Sp.cntV l)).length c') ∧ Reads w' A' c' (Sp.comV (Sp.cntV l)).length ((Sp.comV (Sp.cntV l)).flatMap oftC) ∧ NewT w.heap.size w' 48 A' ∧ Below w.heap.size w w') := by
  have HR := Lib.hid hr
  have HCN := Lib.hid (Sp.cnt_all l hu)
  have HTI := Lib.hid (show ∀ x, ValB x → ∀ W, Below w.heap.size w W → Calls Try.prog 68 #[.slice A l.length c, .agg (valA x)] W (fun e w' => e = .returned (.int .i64 (Sp.times l x : Int)) ∧ Below W.heap.size W w') from fun x hx W hb => times_any l hl hv x hx A c W (hr.below hb))
  have HDI := Lib.hid (show ∀ W, Below w.heap.size w W → Calls Try.prog 46 #[.slice A l.length c] W (fun e w' => ∃ v, e = .returned v ∧ OwnL valC 3 36 W.heap.size w' v (distV l) ∧ Below W.heap.size W w') from fun W hb => distinct_any l hl hv A c W (hr.below hb))
  have HQV := Lib.hid (show ∀ y ∈ Sp.cntV l, ValB y.v from fun y hy => hv _ (HCN.out.mem y hy))
  have HQN := Lib.hid (show ∀ y ∈ Sp.cntV l, (Sp.times l y.v : Int) = y.n from fun y hy => (HCN.out.n y hy).symm)
  have HLQ := Lib.hid (show (Sp.cntV l).length ≤ 1000 from Nat.le_trans (cnt_len l) hl)
  have HCV := Lib.hid (show Sp.comV (Sp.cntV l) = (comK (Sp.cntV l) (Sp.cntV l).length).take 4 from by unfold comK Sp.comV; rw [List.take_length])
  obtain ⟨D, hD⟩ : ∃ D, D = distV l := ⟨_, rfl⟩
  have HDQ := Lib.hid (show D.length = (Sp.cntV l).length from by rw [hD]; exact dist_len l)
  have HDK := Lib.hid (show ∀ k (hk : k < (Sp.cntV l).length) (hk2 : k < D.length), D[k] = (Sp.cntV l)[k].v from fun k hk hk2 => by subst hD; exact List.getElem_map _)
  rw [← hD] at HDI
  clear hD HCN hr hu hv
  generalize Sp.cntV l = Q at HQV HQN HLQ HCV HDQ HDK ⊢
  obtain ⟨C, hC⟩ : ∃ C, C = Sp.comV Q := ⟨_, rfl⟩
  rw [← hC] at HCV ⊢
  clear hC
  have hD1 : D.length ≤ 1000 := by have := HDQ.out; have := HLQ.out; omega
  obtain ⟨i0, hi0, hz0, hz1, hz2⟩ := info_parts info_oft
  go_enter Try.func48, Try.ntmps48
  go_upto_region 2 with fail
  have HO0 := Lib.hid (ownEmpty w 48 4)
  have HB0 := Lib.hid (allocB w (.cells #[] 48))
  generalize w.alloc (.cells #[] 48) = W0 at HO0 HB0 ⊢
  go_upto_region 3 with (go_at_call 46; (with_reducible refine (HDI.out _ HB0.out).mono ?_); rintro e w1 ⟨v1, rfl, ho1, hb1⟩; obtain ⟨DA, dc, rfl⟩ := ownLen ho1; have HRD := Lib.hid (own_reads ho1); clear ho1)
  have HO1 := Lib.hid (ownBelow HO0.out hb1)
  have HB1 := Lib.hid (HB0.out.trans (hb1.mono HB0.out.size))
  clear hb1 HO0 HB0
  go_wp2_with fail
  go_loopw [3, 5] (fun v i wr => ∃ k og oc : Nat, k ≤ D.length ∧ i = .int .i64 k ∧ v = .slice (some ⟨og, 0, none⟩) (comK Q k).length oc ∧ OwnL oftC 4 48 w.heap.size wr (.slice (some ⟨og, 0, none⟩) (comK Q k).length oc) (comK Q k) ∧ Below w1.heap.size w1 wr) (fun _ i _ => D.length - (intOf i).toNat)
  case atStart => exact ⟨0, w.heap.size, 0, Nat.zero_le _, rfl, by simp [comK, Sp.oftF, Sp.sortO], by rw [show comK Q 0 = [] from by simp [comK, Sp.oftF, Sp.sortO]]; exact HO1.out, Below.refl _ _⟩
  case round =>
    clear HO1 HDI
    obtain ⟨k, og, oc, hk, rfl, rfl, ho, hbw⟩ := hrel
    have HO := Lib.hid ho
    have HBW := Lib.hid hbw
    clear ho hbw
    have hk0 : (0 : Int) ≤ (k : Int) := by omega
    by_cases hlt : k < D.length
    · have hlq : k < Q.length := by have := HDQ.out; omega
      obtain ⟨b, off, rfl, hca, hbl, hcell⟩ := read_at valC_len (HRD.out.below HBW.out) hlt
      have hki : (k : Int) < (D.length : Int) := by omega
      have hwk : IntKind.i64.wrap ((k : Int) + 1) = (k : Int) + 1 := IntWalk.i64_in _ (by omega)
      have hdq := HDK.out k hlq hlt
      have HXB := Lib.hid (HQV.out Q[k] (List.getElem_mem hlq))
      have HTX := Lib.hid (HTI.out Q[k].v HXB.out)
      rw [HQN.out Q[k] (List.getElem_mem hlq)] at HTX
      have HPT := Lib.hid (put_common Q k hlq)
      have HP1 := Lib.hid (show Q[k].n < 2 → comK Q (k + 1) = comK Q k from fun h => by unfold comK; rw [(oft_snoc Q k hlq).1 h])
      have HSB := Lib.hid (show ∀ y ∈ comK Q k, ValB y.v from fun y hy => HQV.out y (comK_mem hy))
      have hSl := comK_len Q k
      obtain ⟨S2, hS2⟩ : ∃ S2, S2 = comK Q (k + 1) := ⟨_, rfl⟩
      rw [← hS2] at HPT HP1
      have HS2 := Lib.hid hS2
      clear hS2
      generalize comK Q k = S at HPT HP1 HSB hSl HO ⊢
      have HOD := Lib.hid (fun y (hy : y ∈ S) W => more_any y Q[k] (HSB.out y hy).s HXB.out.s W)
      have HKX := Lib.hid (show ∀ u, Below wr.heap.size wr u → u.rangeAt b (off + k * 3) (valC D[k]) from fun u hu i v hi => by rw [hu.cell (p := ⟨b, off + k * 3 + i, none⟩) hbl]; exact hcell i v hi)
      rw [hdq] at HKX
      clear hdq
      generalize Q[k] = x at HPT HP1 HOD HKX HXB HTX
      clear hcell hca
      obtain ⟨⟨ak, an, sa⟩, nn⟩ := x
      dsimp only [valA] at HTX
      dsimp only [oftA] at HOD
      dsimp only at HP1 HPT
      have hsb : S.length ≤ 1000 := by omega
      have HWW := Lib.hid (HB1.out.trans (HBW.out.mono HB1.out.size))
      go_upto_region 6 with fail
      go_cut [6] (fun x wc => ∃ gt : Nat, x = .pointer (some ⟨gt, 0, none⟩) ∧ wc.heap[gt]? = some (.cells #[.int .i64 ak, .int .i64 an, .string sa, .int .i64 nn] 48 (0, 0)) ∧ Below wr.heap.size wr wc)
      case first =>
        have Z0 : Below wr.heap.size wr wr.drew := (Below.refl _ wr).drew
        refine wp_region_held_drew (S := (fun u => Below wr.heap.size wr u)) (by kernel_rfl) ?_ (fun hHeld => ?_)
        · exact Z0
        refine tkW 0 (some 18) (v := ?_) rfl ?_ ?_
        rotate_left
        · intro u hSu; clear hSu; go_simp; (try with_reducible rfl)
        try simp only [Act.put, List.setIfInBounds_toArray, List.set_cons_zero, List.set_cons_succ]
        refine tkW 1 (some 19) (v := ?_) rfl ?_ ?_
        rotate_left
        · intro u hSu; clear hSu; go_simp; (try with_reducible rfl)
        try simp only [Act.put, List.setIfInBounds_toArray, List.set_cons_zero, List.set_cons_succ]
        refine tkW 2 (some 20) (v := ?_) rfl ?_ ?_
        rotate_left
        · intro u hSu; clear hSu; go_simp; (try with_reducible rfl)
        try simp only [Act.put, List.setIfInBounds_toArray, List.set_cons_zero, List.set_cons_succ]
        refine tkV 3 (some 21) (v := .agg #[.int .i64 ak, .int .i64 an, .string sa]) rfl (yieldsIf_load_mid (by rfl) 36 (.tmp 20) rfl b (off + k * 3) (by rfl) [.int .i64 ak, .int .i64 an, .string sa] _ HKX.out Try.underlying36 (by kernel_rfl) (by kernel_rfl)) ?_
        try simp only [Act.put, List.setIfInBounds_toArray, List.set_cons_zero, List.set_cons_succ]
        refine tkW 4 (some 22) (v := ?_) rfl ?_ ?_
        rotate_left
        · intro u hSu; clear hSu; go_simp; (try with_reducible rfl)
        try simp only [Act.put, List.setIfInBounds_toArray, List.set_cons_zero, List.set_cons_succ]
        refine tkW 5 (some 23) (v := ?_) rfl ?_ ?_
        rotate_left
        · intro u hSu; clear hSu; go_simp; (try with_reducible rfl)
        try simp only [Act.put, List.setIfInBounds_toArray, List.set_cons_zero, List.set_cons_succ]
        refine tkW 6 (some 24) (v := ?_) rfl ?_ ?_
        rotate_left
        · intro u hSu; clear hSu; go_simp; (try with_reducible rfl)
        try simp only [Act.put, List.setIfInBounds_toArray, List.set_cons_zero, List.set_cons_succ]
        refine tkW 7 (some 25) (v := ?_) rfl ?_ ?_
        rotate_left
        · intro u hSu; clear hSu; go_simp; (try with_reducible rfl)
        try simp only [Act.put, List.setIfInBounds_toArray, List.set_cons_zero, List.set_cons_succ]
        refine tkV 8 (some 26) (v := .agg #[.int .i64 ak, .int .i64 an, .string sa]) rfl (yieldsIf_load_mid (by rfl) 36 (.tmp 25) rfl b (off + k * 3) (by rfl) [.int .i64 ak, .int .i64 an, .string sa] _ HKX.out Try.underlying36 (by kernel_rfl) (by kernel_rfl)) ?_
        try simp only [Act.put, List.setIfInBounds_toArray, List.set_cons_zero, List.set_cons_succ]
        refine wpAnyH_ready (rs := [9, 11]) (by kernel_rfl) (by simp) ?_
        refine (AllReadyH.cons (o := { dst := some 27, op := _, type := _, pos := _, after := _, guard := _ }) rfl (fun K hK => ?_) (AllReadyH.cons (o := { dst := some 6, op := _, type := _, pos := _, after := _, guard := _ }) rfl (fun K hK => ?_) AllReadyH.nil))
        ·
          go_simp
          refine (HTX.out _ (HWW.out.trans (Z0.mono HWW.out.size))).mono ?_; rintro e w5 ⟨rfl, hb5⟩; have Z2 := joinB Z0 hb5; try clear hSn
          have hSn := Z2
          refine hK.out _ _ ?_ (fun hHeld => ?_)
          · exact hSn
          clear hK K
          try simp only [Act.put, List.setIfInBounds_toArray, List.set_cons_zero, List.set_cons_succ]
          refine tkW 10 (some 28) (v := ?_) rfl ?_ ?_
          rotate_left
          · intro u hSu; clear hSu; go_simp; (try with_reducible rfl)
          try simp only [Act.put, List.setIfInBounds_toArray, List.set_cons_zero, List.set_cons_succ]
          refine rdH 11 (some 6) rfl (fun K hK => ?_)
          go_simp
          have HGN := heap_alloc_new w5 (.cells #[.int .i64 0, .int .i64 0, .string ⟨#[]⟩, .int .i64 0] 48); have Z3 := joinB Z2 (allocB w5 (.cells #[.int .i64 0, .int .i64 0, .string ⟨#[]⟩, .int .i64 0] 48)); clear hSn; have hSn := Z3
          refine hK.out _ _ ?_ (fun hHeld => ?_)
          · exact hSn
          clear hK K
          try simp only [Act.put, List.setIfInBounds_toArray, List.set_cons_zero, List.set_cons_succ]
          refine rdH 12 none rfl (fun K hK => ?_)
          refine wantedIf (by rfl) ?_
          refine wp_store_whole 48 (.tmp 6) (.tmp 28) rfl w5.heap.size #[.int .i64 ak, .int .i64 an, .string sa, .int .i64 nn] _ _ rfl rfl HGN (by kernel_rfl) (by kernel_rfl) (by kernel_rfl) ?_
          have Z4 := belowRow (g := w5.heap.size) (by have := Z2.size; omega) Z3 #[.int .i64 ak, .int .i64 an, .string sa, .int .i64 nn]
          have HG4 := setRow_heap _ _ _ #[.int .i64 ak, .int .i64 an, .string sa, .int .i64 nn] _ _ HGN
          clear hSn
          have hSn := Z4
          refine hK.out _ _ ?_ (fun hHeld => ?_)
          · exact hSn
          clear hK K
          try simp only [Act.put]
          refine wpAnyH_done (by kernel_rfl) ?_ _
          clear hHeld hSn
          go_wp2_with fail
          go_meet
          case rel => exact ⟨_, rfl, HG4, Z4⟩
        ·
          go_simp
          have Z1 := joinB Z0 (allocB wr.drew (.cells #[.int .i64 0, .int .i64 0, .string ⟨#[]⟩, .int .i64 0] 48)); have hSn := Z1
          refine hK.out _ _ ?_ (fun hHeld => ?_)
          · exact hSn
          clear hK K
          try simp only [Act.put, List.setIfInBounds_toArray, List.set_cons_zero, List.set_cons_succ]
          refine rdH 9 (some 27) rfl (fun K hK => ?_)
          go_simp
          refine (HTX.out _ (HWW.out.trans (Z1.mono HWW.out.size))).mono ?_; rintro e w5 ⟨rfl, hb5⟩; have Z2 := joinB Z1 hb5; try clear hSn
          have hSn := Z2
          have HGN := blkNew hb5
          refine hK.out _ _ ?_ (fun hHeld => ?_)
          · exact hSn
          clear hK K
          try simp only [Act.put, List.setIfInBounds_toArray, List.set_cons_zero, List.set_cons_succ]
          refine tkW 10 (some 28) (v := ?_) rfl ?_ ?_
          rotate_left
          · intro u hSu; clear hSu; go_simp; (try with_reducible rfl)
          try simp only [Act.put, List.setIfInBounds_toArray, List.set_cons_zero, List.set_cons_succ]
          refine rdH 12 none rfl (fun K hK => ?_)
          refine wantedIf (by rfl) ?_
          refine wp_store_whole 48 (.tmp 6) (.tmp 28) rfl wr.drew.heap.size #[.int .i64 ak, .int .i64 an, .string sa, .int .i64 nn] _ _ rfl rfl HGN (by kernel_rfl) (by kernel_rfl) (by kernel_rfl) ?_
          have Z4 := belowRow (g := wr.drew.heap.size) (by show wr.heap.size ≤ wr.heap.size; omega) Z2 #[.int .i64 ak, .int .i64 an, .string sa, .int .i64 nn]
          have HG4 := setRow_heap _ _ _ #[.int .i64 ak, .int .i64 an, .string sa, .int .i64 nn] _ _ HGN
          clear hSn
          have hSn := Z4
          refine hK.out _ _ ?_ (fun hHeld => ?_)
          · exact hSn
          clear hK K
          try simp only [Act.put]
          refine wpAnyH_done (by kernel_rfl) ?_ _
          clear hHeld hSn
          go_wp2_with fail
          go_meet
          case rel => exact ⟨_, rfl, HG4, Z4⟩
      case rest =>
        obtain ⟨gt, rfl, hgt, hbt⟩ := hcut
        obtain ⟨w3, rfl⟩ : ∃ wm : World, wm = wc := ⟨_, rfl⟩
        have HG := Lib.hid hgt
        have HB3 := Lib.hid hbt
        have HW3 := Lib.hid (HWW.out.trans (hbt.mono HWW.out.size))
        have HO3 := Lib.hid (ownBelow HO.out hbt)
        have HB13 := Lib.hid (HBW.out.trans (hbt.mono HBW.out.size))
        have hc3 : w3.cell? ⟨gt, 3, none⟩ = some (.int .i64 nn) := by rw [blkCell hgt]; rfl
        clear hgt hbt HTX HKX HXB
        by_cases h2 : nn < 2
        · have HE := Lib.hid (HP1.out h2)
          clear HP1 HPT
          go_wp2_with fail
          go_roundw
          case rel => exact ⟨k + 1, og, oc, by omega, by go_num, by rw [← HS2.out, HE.out], by rw [← HS2.out, HE.out]; exact HO3.out, HB13.out⟩
          case measure => simp [intOf]; omega
        · have HPJ := Lib.hid (HPT.out h2)
          clear HP1 HPT
          go_wp2_with fail
          clear hc3
          go_loopw [7] (fun i wq => ∃ j : Nat, j ≤ S.length ∧ i = .int .i64 j ∧ (∀ t (ht : t < S.length), t < j → Sp.ordO S[t] ⟨⟨ak, an, sa⟩, nn⟩ < 0) ∧ Below w3.heap.size w3 wq) (fun i _ => S.length - (intOf i).toNat)
          case atStart => exact ⟨0, Nat.zero_le _, rfl, fun _ _ h => absurd h (by omega), Below.refl _ _⟩
          case round =>
            obtain ⟨j, hj, rfl, hall, hbq⟩ := hrel
            have HBQ := Lib.hid hbq
            have HALL := Lib.hid hall
            clear hall hbq
            have hj0 : (0 : Int) ≤ (j : Int) := by omega
            have hwj : IntKind.i64.wrap ((j : Int) + 1) = (j : Int) + 1 := IntWalk.i64_in _ (by omega)
            go_upto_region 9 with fail
            go_cut [43] (fun q wc => ∃ t : Bool, q = .bool t ∧ (t = true → ∃ hj : j < S.length, Sp.ordO S[j] ⟨⟨ak, an, sa⟩, nn⟩ < 0) ∧ (t = false → ∀ hj : j < S.length, ¬ Sp.ordO S[j] ⟨⟨ak, an, sa⟩, nn⟩ < 0) ∧ Below w3.heap.size w3 wc)
            case first =>
              by_cases hjl : j < S.length
              · have hown := ownBelow HO3.out HBQ.out
                have hrg := own_range oftC_len hown j hjl
                have hogl : og < wr.heap.size := by obtain ⟨_, _, h, _⟩ := own_blk hown; exact h
                have HGQ := Lib.hid (blkOld HG.out HBQ.out)
                have HODJ := Lib.hid (HOD.out S[j] (List.getElem_mem hjl))
                obtain ⟨o, hoe⟩ : ∃ o, o = decide (Sp.ordO S[j] ⟨⟨ak, an, sa⟩, nn⟩ < 0) := ⟨_, rfl⟩
                simp only [← hoe] at HODJ
                have HT1 := Lib.hid (show o = true → ∃ hj : j < S.length, Sp.ordO S[j] ⟨⟨ak, an, sa⟩, nn⟩ < 0 from fun h => ⟨hjl, by rw [hoe, decide_eq_true_eq] at h; exact h⟩)
                have HT2 := Lib.hid (show o = false → ∀ hj : j < S.length, ¬ Sp.ordO S[j] ⟨⟨ak, an, sa⟩, nn⟩ < 0 from fun h _ => by rw [hoe, decide_eq_false_iff_not] at h; exact h)
                clear hoe
                generalize S[j] = y at hrg HODJ
                obtain ⟨⟨bk, bn, sb⟩, bq⟩ := y
                dsimp only [oftA] at HODJ
                have HJ := Lib.hid (show ∀ u, Below wr.heap.size wr u → u.rangeAt og (j * 4) [.int .i64 bk, .int .i64 bn, .string sb, .int .i64 bq] from fun u hu i v hi => by rw [hu.cell (p := ⟨og, j * 4 + i, none⟩) hogl]; exact hrg i v hi)
                have hjd : decide (j < S.length) = true := decide_eq_true hjl
                have hji : (j : Int) < (S.length : Int) := by omega
                clear hrg hown
                cases o with
                | true =>
                  have HF := Lib.hid (HT1.out rfl)
                  clear HT1 HT2
                  have hSn : Below wr.heap.size wr wr.drew := (Below.refl _ wr).drew
                  refine wp_region_held_drew (S := (fun u => Below wr.heap.size wr u)) (by kernel_rfl) ?_ (fun hHeld => ?_)
                  · exact hSn
                  generalize wr.drew = w9 at hSn ⊢
                  refine tkW 0 (some 32) (v := ?_) rfl ?_ ?_
                  rotate_left
                  · intro u hSu; clear hSu; go_simp; (try with_reducible rfl)
                  try simp only [Act.put, List.setIfInBounds_toArray, List.set_cons_zero, List.set_cons_succ]
                  refine tkW 1 (some 33) (v := ?_) rfl ?_ ?_
                  rotate_left
                  · intro u hSu; clear hSu; go_simp; (try with_reducible rfl)
                  try simp only [Act.put, List.setIfInBounds_toArray, List.set_cons_zero, List.set_cons_succ]
                  refine tkW 2 (some 34) (v := ?_) rfl ?_ ?_
                  rotate_left
                  · intro u hSu; clear hSu; go_simp; (try with_reducible rfl)
                  try simp only [Act.put, List.setIfInBounds_toArray, List.set_cons_zero, List.set_cons_succ]
                  refine tkW 3 (some 35) (v := ?_) rfl ?_ ?_
                  rotate_left
                  · intro u hSu; clear hSu; go_simp; (try with_reducible rfl)
                  try simp only [Act.put, List.setIfInBounds_toArray, List.set_cons_zero, List.set_cons_succ]
                  refine tkW 4 (some 36) (v := ?_) rfl ?_ ?_
                  rotate_left
                  · intro u hSu; clear hSu; go_simp; (try with_reducible rfl)
                  try simp only [Act.put, List.setIfInBounds_toArray, List.set_cons_zero, List.set_cons_succ]
                  refine tkW 5 (some 37) (v := ?_) rfl ?_ ?_
                  rotate_left
                  · intro u hSu; clear hSu; go_simp; (try with_reducible rfl)
                  try simp only [Act.put, List.setIfInBounds_toArray, List.set_cons_zero, List.set_cons_succ]
                  refine tkW 6 (some 38) (v := ?_) rfl ?_ ?_
                  rotate_left
                  · intro u hSu; clear hSu; go_simp; (try with_reducible rfl)
                  try simp only [Act.put, List.setIfInBounds_toArray, List.set_cons_zero, List.set_cons_succ]
                  refine tkW 7 (some 39) (v := ?_) rfl ?_ ?_
                  rotate_left
                  · intro u hSu; clear hSu; go_simp; (try with_reducible rfl)
                  try simp only [Act.put, List.setIfInBounds_toArray, List.set_cons_zero, List.set_cons_succ]
                  refine tkV 8 (some 40) (v := .agg #[.int .i64 bk, .int .i64 bn, .string sb, .int .i64 bq]) rfl (yieldsIf_load_mid (by rfl) 48 (.tmp 39) rfl og (j * 4) (by rfl) [.int .i64 bk, .int .i64 bn, .string sb, .int .i64 bq] _ HJ.out Try.underlying48 (by kernel_rfl) (by kernel_rfl)) ?_
                  try simp only [Act.put, List.setIfInBounds_toArray, List.set_cons_zero, List.set_cons_succ]
                  refine tkV 9 (some 41) (v := .agg #[.int .i64 ak, .int .i64 an, .string sa, .int .i64 nn]) rfl (yieldsIf_load_mid (by rfl) 48 (.tmp 6) rfl gt 0 (by rfl) #[.int .i64 ak, .int .i64 an, .string sa, .int .i64 nn].toList _ (fun u hu => (by intro j v hj; rw [Nat.zero_add, blkCell (blkOld HGQ.out hu)]; simpa using hj)) Try.underlying48 (by kernel_rfl) (by kernel_rfl)) ?_
                  try simp only [Act.put, List.setIfInBounds_toArray, List.set_cons_zero, List.set_cons_succ]
                  refine rdH 10 (some 42) rfl (fun K hK => ?_)
                  go_simp
                  (with_reducible refine (HODJ.out _).mono ?_); rintro e w2 ⟨rfl, hg2⟩; have hSm := joinB hSn hg2.below; clear hSn hg2; have hSn := hSm; clear hSm
                  refine hK.out _ _ ?_ (fun hHeld => ?_)
                  · exact hSn
                  clear hK K
                  try simp only [Act.put, List.setIfInBounds_toArray, List.set_cons_zero, List.set_cons_succ]
                  refine tkW 11 (some 43) (v := ?_) rfl ?_ ?_
                  rotate_left
                  · intro u hSu; clear hSu; go_simp; (try with_reducible rfl)
                  try simp only [Act.put, List.setIfInBounds_toArray, List.set_cons_zero, List.set_cons_succ]
                  refine wpAnyH_done (by kernel_rfl) ?_ _
                  clear hHeld
                  go_wp2_with fail
                  go_meet
                  case rel => exact ⟨true, rfl, fun _ => HF.out, (fun h => by cases h), joinB HBQ.out hSn⟩
                | false =>
                  have HF := Lib.hid (HT2.out rfl)
                  clear HT1 HT2
                  have hSn : Below wr.heap.size wr wr.drew := (Below.refl _ wr).drew
                  refine wp_region_held_drew (S := (fun u => Below wr.heap.size wr u)) (by kernel_rfl) ?_ (fun hHeld => ?_)
                  · exact hSn
                  generalize wr.drew = w9 at hSn ⊢
                  refine tkW 0 (some 32) (v := ?_) rfl ?_ ?_
                  rotate_left
                  · intro u hSu; clear hSu; go_simp; (try with_reducible rfl)
                  try simp only [Act.put, List.setIfInBounds_toArray, List.set_cons_zero, List.set_cons_succ]
                  refine tkW 1 (some 33) (v := ?_) rfl ?_ ?_
                  rotate_left
                  · intro u hSu; clear hSu; go_simp; (try with_reducible rfl)
                  try simp only [Act.put, List.setIfInBounds_toArray, List.set_cons_zero, List.set_cons_succ]
                  refine tkW 2 (some 34) (v := ?_) rfl ?_ ?_
                  rotate_left
                  · intro u hSu; clear hSu; go_simp; (try with_reducible rfl)
                  try simp only [Act.put, List.setIfInBounds_toArray, List.set_cons_zero, List.set_cons_succ]
                  refine tkW 3 (some 35) (v := ?_) rfl ?_ ?_
                  rotate_left
                  · intro u hSu; clear hSu; go_simp; (try with_reducible rfl)
                  try simp only [Act.put, List.setIfInBounds_toArray, List.set_cons_zero, List.set_cons_succ]
                  refine tkW 4 (some 36) (v := ?_) rfl ?_ ?_
                  rotate_left
                  · intro u hSu; clear hSu; go_simp; (try with_reducible rfl)
                  try simp only [Act.put, List.setIfInBounds_toArray, List.set_cons_zero, List.set_cons_succ]
                  refine tkW 5 (some 37) (v := ?_) rfl ?_ ?_
                  rotate_left
                  · intro u hSu; clear hSu; go_simp; (try with_reducible rfl)
                  try simp only [Act.put, List.setIfInBounds_toArray, List.set_cons_zero, List.set_cons_succ]
                  refine tkW 6 (some 38) (v := ?_) rfl ?_ ?_
                  rotate_left
                  · intro u hSu; clear hSu; go_simp; (try with_reducible rfl)
                  try simp only [Act.put, List.setIfInBounds_toArray, List.set_cons_zero, List.set_cons_succ]
                  refine tkW 7 (some 39) (v := ?_) rfl ?_ ?_
                  rotate_left
                  · intro u hSu; clear hSu; go_simp; (try with_reducible rfl)
                  try simp only [Act.put, List.setIfInBounds_toArray, List.set_cons_zero, List.set_cons_succ]
                  refine tkV 8 (some 40) (v := .agg #[.int .i64 bk, .int .i64 bn, .string sb, .int .i64 bq]) rfl (yieldsIf_load_mid (by rfl) 48 (.tmp 39) rfl og (j * 4) (by rfl) [.int .i64 bk, .int .i64 bn, .string sb, .int .i64 bq] _ HJ.out Try.underlying48 (by kernel_rfl) (by kernel_rfl)) ?_
                  try simp only [Act.put, List.setIfInBounds_toArray, List.set_cons_zero, List.set_cons_succ]
                  refine tkV 9 (some 41) (v := .agg #[.int .i64 ak, .int .i64 an, .string sa, .int .i64 nn]) rfl (yieldsIf_load_mid (by rfl) 48 (.tmp 6) rfl gt 0 (by rfl) #[.int .i64 ak, .int .i64 an, .string sa, .int .i64 nn].toList _ (fun u hu => (by intro j v hj; rw [Nat.zero_add, blkCell (blkOld HGQ.out hu)]; simpa using hj)) Try.underlying48 (by kernel_rfl) (by kernel_rfl)) ?_
                  try simp only [Act.put, List.setIfInBounds_toArray, List.set_cons_zero, List.set_cons_succ]
                  refine rdH 10 (some 42) rfl (fun K hK => ?_)
                  go_simp
                  (with_reducible refine (HODJ.out _).mono ?_); rintro e w2 ⟨rfl, hg2⟩; have hSm := joinB hSn hg2.below; clear hSn hg2; have hSn := hSm; clear hSm
                  refine hK.out _ _ ?_ (fun hHeld => ?_)
                  · exact hSn
                  clear hK K
                  try simp only [Act.put, List.setIfInBounds_toArray, List.set_cons_zero, List.set_cons_succ]
                  refine tkW 11 (some 43) (v := ?_) rfl ?_ ?_
                  rotate_left
                  · intro u hSu; clear hSu; go_simp; (try with_reducible rfl)
                  try simp only [Act.put, List.setIfInBounds_toArray, List.set_cons_zero, List.set_cons_succ]
                  refine wpAnyH_done (by kernel_rfl) ?_ _
                  clear hHeld
                  go_wp2_with fail
                  go_meet
                  case rel => exact ⟨false, rfl, (fun h => by cases h), fun _ => HF.out, joinB HBQ.out hSn⟩
              · have hjd : decide (j < S.length) = false := decide_eq_false hjl
                have hji : ¬ (j : Int) < (S.length : Int) := by omega
                have HF := Lib.hid hjl
                have hSn : Below wr.heap.size wr wr.drew := (Below.refl _ wr).drew
                refine wp_region_held_drew (S := (fun u => Below wr.heap.size wr u)) (by kernel_rfl) ?_ (fun hHeld => ?_)
                · exact hSn
                generalize wr.drew = w9 at hSn ⊢
                refine tkW 0 (some 32) (v := ?_) rfl ?_ ?_
                rotate_left
                · intro u hSu; clear hSu; go_simp; (try with_reducible rfl)
                try simp only [Act.put, List.setIfInBounds_toArray, List.set_cons_zero, List.set_cons_succ]
                refine tkW 1 (some 33) (v := ?_) rfl ?_ ?_
                rotate_left
                · intro u hSu; clear hSu; go_simp; (try with_reducible rfl)
                try simp only [Act.put, List.setIfInBounds_toArray, List.set_cons_zero, List.set_cons_succ]
                refine tkW 2 (some 34) (v := ?_) rfl ?_ ?_
                rotate_left
                · intro u hSu; clear hSu; go_simp; (try with_reducible rfl)
                try simp only [Act.put, List.setIfInBounds_toArray, List.set_cons_zero, List.set_cons_succ]
                refine tkW 3 (some 35) (v := ?_) rfl ?_ ?_
                rotate_left
                · intro u hSu; clear hSu; go_simp; (try with_reducible rfl)
                try simp only [Act.put, List.setIfInBounds_toArray, List.set_cons_zero, List.set_cons_succ]
                refine tkW 4 (some 36) (v := ?_) rfl ?_ ?_
                rotate_left
                · intro u hSu; clear hSu; go_simp; (try with_reducible rfl)
                try simp only [Act.put, List.setIfInBounds_toArray, List.set_cons_zero, List.set_cons_succ]
                refine tkO 5 (some 37) rfl ?_
                try simp only [Act.put, List.setIfInBounds_toArray, List.set_cons_zero, List.set_cons_succ]
                refine tkO 6 (some 38) rfl ?_
                try simp only [Act.put, List.setIfInBounds_toArray, List.set_cons_zero, List.set_cons_succ]
                refine tkO 7 (some 39) rfl ?_
                try simp only [Act.put, List.setIfInBounds_toArray, List.set_cons_zero, List.set_cons_succ]
                refine tkO 8 (some 40) rfl ?_
                try simp only [Act.put, List.setIfInBounds_toArray, List.set_cons_zero, List.set_cons_succ]
                refine tkO 9 (some 41) rfl ?_
                try simp only [Act.put, List.setIfInBounds_toArray, List.set_cons_zero, List.set_cons_succ]
                refine tkO 10 (some 42) rfl ?_
                try simp only [Act.put, List.setIfInBounds_toArray, List.set_cons_zero, List.set_cons_succ]
                refine tkW 11 (some 43) (v := ?_) rfl ?_ ?_
                rotate_left
                · intro u hSu; clear hSu; go_simp; (try with_reducible rfl)
                try simp only [Act.put, List.setIfInBounds_toArray, List.set_cons_zero, List.set_cons_succ]
                refine wpAnyH_done (by kernel_rfl) ?_ _
                clear hHeld
                go_wp2_with fail
                go_meet
                case rel => exact ⟨false, rfl, (fun h => by cases h), (fun _ hj => absurd hj HF.out), joinB HBQ.out hSn⟩
            case rest =>
              obtain ⟨t, rfl, ht1, ht2, hbc⟩ := hcut
              cases t with
              | true =>
                obtain ⟨hjl, hle⟩ := ht1 rfl
                have HGA := Lib.hid (show ∀ t (ht : t < S.length), t < j + 1 → Sp.ordO S[t] ⟨⟨ak, an, sa⟩, nn⟩ < 0 from fun t ht htj => by
                  rcases Nat.lt_or_eq_of_le (Nat.le_of_lt_succ htj) with h5 | h5
                  · exact HALL.out t ht h5
                  · subst h5; exact hle)
                clear ht1 ht2 hle
                go_wp2_with fail
                go_roundw
                case rel => exact ⟨j + 1, by omega, by go_num, HGA.out, hbc⟩
                case measure => simp [intOf]; omega
              | false =>
                have HE := Lib.hid (HPJ.out j HALL.out (fun h => by have := ht2 rfl h; omega))
                clear ht1 ht2
                have HOC := Lib.hid (ownBelow HO3.out hbc)
                have HBC := Lib.hid (HW3.out.trans (hbc.mono HW3.out.size))
                obtain ⟨_, _, hogl, _, hcl, hcm, _, _⟩ := own_blk HOC.out
                have HA8 := Lib.hid (allocB wc (.cells #[] 48))
                have HT8 := Lib.hid ((reads_take oftC_len (own_reads HOC.out) j hj).below HA8.out)
                have HD8 := Lib.hid (reads_drop oftC_len (own_reads HOC.out) j hj hcl)
                skip
                have hji : (j : Int) ≤ (S.length : Int) := by omega
                have hjc : (j : Int) ≤ (oc : Int) := by omega
                have hsc : (S.length : Int) ≤ (oc : Int) := by omega
                have hmx : oc ≤ maxLen := hcm
                clear hogl hcm
                go_wp2_with (first | (at_builtin; refine listWants (by kernel_rfl) fun K hK => wp_appR (wc.alloc (.cells #[] 48)) (.tmp 46) (.tmp 49) 37 48 i0 (.agg (oftA ⟨Sp.nullV, 0⟩)) 4 40 Try.underlying37 hi0 hz0 hz1 hz2 rfl (by omega) rfl wc.heap.size _ 0 [] rfl (ownEmpty wc 48 4) (some ⟨og, 0, none⟩) j oc ((S.take j).flatMap oftC) rfl HT8.out (by rw [flat_len oftC_len, List.length_take, Nat.min_eq_left hj]) (oftC_all _) (by omega) (by omega) HA8.out.size ?_; intro v5 w5 ho5 hg5 hb5; rw [List.nil_append, Nat.zero_add] at ho5; have HB5 := Lib.hid (HA8.out.trans hb5); clear hg5 hb5; obtain ⟨A5, c5, rfl⟩ := ownLen ho5; have HO5 := Lib.hid ho5; clear ho5; have HX5 := Lib.hid (blkOld HG.out (joinB hbc HB5.out)); refine hK _ _ ?_) | (with_reducible refine listLoad (by kernel_rfl) 48 (.tmp 6) rfl gt rfl #[.int .i64 ak, .int .i64 an, .string sa, .int .i64 nn] _ HX5.out _ Try.underlying48 (by kernel_rfl) (by kernel_rfl) ?_) | (at_builtin; refine wpList_push (by kernel_rfl) (.tmp 51) (.tmp 53) 37 48 Try.underlying37 info_oft rfl (by omega) (by omega) rfl wc.heap.size _ j ((S.take j).flatMap oftC) rfl (ownBelow HO5.out (allocB _ _)) w5.heap.size (oftC ⟨⟨ak, an, sa⟩, nn⟩) 48 rfl (heap_alloc_new w5 _) rfl (oftC_one _) (by omega) (Nat.le_trans HB5.out.size (allocB w5 _).size) ?_; intro v7 w7 ho7 hg7 hb7; have HB7 := Lib.hid (HB5.out.trans (((allocB w5 _).mono HB5.out.size).trans hb7)); clear hg7 hb7; obtain ⟨A7, c7, rfl⟩ := ownLen ho7; have HO7 := Lib.hid ho7; clear ho7; have HD7 := Lib.hid (HD8.out.below (HB7.out))) | (at_builtin; refine listWants (by kernel_rfl) fun K hK => wp_appR w7 (.tmp 55) (.tmp 58) 37 48 i0 (.agg (oftA ⟨Sp.nullV, 0⟩)) 4 40 Try.underlying37 hi0 hz0 hz1 hz2 rfl (by omega) rfl wc.heap.size _ (j + 1) _ rfl HO7.out (if oc = j then (some ⟨og, 0, none⟩ : Option Addr) else some ⟨og, j * 4, none⟩) (S.length - j) (oc - j) ((S.drop j).flatMap oftC) rfl HD7.out (by rw [flat_len oftC_len, List.length_drop]) (oftC_all _) (by omega) (by omega) HB7.out.size ?_; intro v9 w9 ho9 hg9 hb9; have HB9 := Lib.hid (HB7.out.trans hb9); clear hg9 hb9; have HI := Lib.hid (own_ins hj ho9); clear ho9; refine hK _ _ ?_))
                go_roundw
                case rel =>
                  have ho := HI.out
                  have h0 : 0 < (S.take j ++ ⟨⟨ak, an, sa⟩, nn⟩ :: S.drop j).length := by rw [List.length_append, List.length_cons]; omega
                  rw [← HE.out] at h0
                  rw [← HE.out] at ho
                  rw [HS2.out] at ho h0
                  obtain ⟨og2, oc2, rfl⟩ := own_some ho h0
                  exact ⟨k + 1, og2, oc2, by omega, by go_num, rfl, ownMono ho HBC.out.size, HB13.out.trans ((hbc.mono HB13.out.size).trans (HB9.out.mono (Nat.le_trans HB13.out.size hbc.size)))⟩
                case measure => simp [intOf]; omega
    · obtain rfl : k = D.length := by omega
      have hq := HDQ.out
      have ho := HO.out
      have hcv := HCV.out
      rw [← hq] at hcv
      generalize comK Q D.length = S at ho hcv HO ⊢
      obtain ⟨m, hm⟩ : ∃ m, m = min 4 S.length := ⟨_, rfl⟩
      have hCm : C = S.take m := by rw [hcv, hm, List.take_eq_take_iff]; omega
      have hCl : C.length = m := by rw [hCm, List.length_take]; omega
      obtain ⟨_, _, hogl, _, hcl, hcm, _, _⟩ := own_blk ho
      have HRT := Lib.hid (reads_take oftC_len (own_reads ho) m (by omega))
      rw [← hCm] at HRT
      have HNW := Lib.hid (NewT.own ho)
      have hmI : min (4 : Int) (S.length : Int) = (m : Int) := by omega
      have hmI2 : min (S.length : Int) (4 : Int) = (m : Int) := by omega
      have hm0 : (0 : Int) ≤ (m : Int) := by omega
      have hml : (m : Int) ≤ (S.length : Int) := by omega
      have hmc : (m : Int) ≤ (oc : Int) := by omega
      have HCL := Lib.hid hCl
      clear hq ho hcv hCm hm hogl hcl hcm hCl
      go_wp2_with fail
      go_ret
      exact ⟨some ⟨og, 0, none⟩, oc, by rw [HCL.out]; rfl, by rw [HCL.out]; exact HRT.out, HNW.out, HB1.out.trans (HBW.out.mono HB1.out.size)⟩
end Go.Proofs.Ytmhpbmobfdgkeaa
/- The walk over the reference of statistics: col. -/
namespace Go.Proofs.Ytmhpbmobfdgkeaa
open Go.RowKit
theorem colAt_valB {rows : List (List Sp.Val)} (h : ∀ r ∈ rows, ∀ v ∈ r, ValB v) (i : Nat) : ∀ v ∈ Sp.colAt rows i, ValB v := fun v hv => by
  unfold Sp.colAt at hv
  obtain ⟨r, hr, rfl⟩ := List.mem_map.1 hv
  by_cases hi : i < r.length
  · exact h r hr _ (Sp.getD_mem hi)
  · rw [List.getD_eq_getElem?_getD, List.getElem?_eq_none (by omega), Option.getD_none]; exact ⟨by decide, by decide, by decide⟩
set_option maxRecDepth 100000 in
set_option maxHeartbeats 4000000 in
theorem rcol_any (rows : List PRow) (hl : rows.length ≤ 1000) (hrl : ∀ r ∈ rows, r.l.length ≤ 140737488355328) (hrv : ∀ r ∈ rows, ∀ v ∈ r.l, ValB v) (i : Nat) (hi : i ≤ 1000) (A : Option Addr) (c : Nat) (w : World) (hr : RowsR w A c rows) :
    Calls Try.prog 21 #[.slice A rows.length c, .int .i64 (i : Int)] w (fun e w' => ∃ p : PCol, e = .returned (.agg (colA p)) ∧ p.c = Sp.colS (Sp.colAt (rows.map (·.l)) i) ∧ PColN w.heap.size w' p ∧ Below w.heap.size w w') := by
  obtain ⟨L, hL⟩ : ∃ L, L = Sp.colAt (rows.map (·.l)) i := ⟨_, rfl⟩
  have hLl : L.length = rows.length := by rw [hL, Sp.colAt_len, List.length_map]
  have hLv : ∀ v ∈ L, ValB v := by
    rw [hL]
    refine colAt_valB (fun r hr v hv => ?_) i
    obtain ⟨q, hq, rfl⟩ := List.mem_map.1 hr
    exact hrv q hq v hv
  have HCO := Lib.hid (fun W hb => rcolumn_any rows hl hrl hrv i hi A c W (hr.below hb))
  rw [← hL] at HCO ⊢
  clear hL
  obtain ⟨F, hF⟩ : ∃ F, F = L.filter Sp.known := ⟨_, rfl⟩
  have hFl : F.length ≤ 1000 := by rw [hF]; exact Nat.le_trans (List.length_filter_le _ _) (by omega)
  have hFv : ∀ v ∈ F, ValB v := fun v hv => hLv v (by rw [hF] at hv; exact (List.mem_filter.1 hv).1)
  obtain ⟨O, hO⟩ : ∃ O, O = Sp.sortO Sp.ordV F := ⟨_, rfl⟩
  have hOO : Sp.others L = O := by rw [hO, hF]; rfl
  have hOl : O.length ≤ rows.length := by rw [hO, Sp.sort_len, hF, ← hLl]; exact List.length_filter_le _ _
  have hOv : ∀ v ∈ O, ValB v := fun v hv => hFv v (by rw [hO] at hv; exact (Sp.sort_perm Sp.ordV F).mem_iff.1 hv)
  have hOu : Sp.Up Sp.ordV O := by rw [hO]; exact Sp.totV.sort_up F
  have HSO := Lib.hid (fun A1 c1 W (h : Reads W A1 c1 F.length (F.flatMap valC)) => rsorted_any F hFl hFv A1 c1 W h)
  rw [← hF] at HCO
  simp only [← hO] at HSO
  obtain ⟨D, hD⟩ : ∃ D, D = distV O := ⟨_, rfl⟩
  obtain ⟨E, hE⟩ : ∃ E, E = Sp.endsV O := ⟨_, rfl⟩
  obtain ⟨C, hC⟩ : ∃ C, C = Sp.comV (Sp.cntV O) := ⟨_, rfl⟩
  have HDI := Lib.hid (fun A1 c1 W (h : Reads W A1 c1 O.length (O.flatMap valC)) => distinct_any O (by omega) hOv A1 c1 W h)
  have HEN := Lib.hid (fun A1 c1 W (h : Reads W A1 c1 O.length (O.flatMap valC)) => rends_any O (by omega) A1 c1 W h)
  have HCM := Lib.hid (fun A1 c1 W (h : Reads W A1 c1 O.length (O.flatMap valC)) => rcommon_any O (by omega) hOu hOv A1 c1 W h)
  simp only [← hD] at HDI
  simp only [← hE] at HEN
  simp only [← hC] at HCM
  obtain ⟨nu, hnu⟩ : ∃ nu, nu = (rows.length : Int) - (O.length : Int) := ⟨_, rfl⟩
  have hw1 : IntKind.i64.wrap ((rows.length : Int) - (O.length : Int)) = nu := by rw [hnu]; exact IntWalk.i64_in _ (by omega)
  have HCS := Lib.hid (show Sp.colS L = ⟨nu, (D.length : Int), E, C⟩ from by
    unfold Sp.colS
    rw [hOO, hLl, ← hnu, ← hE, ← hC, hD, dist_len])
  clear hnu hD hE hC hOO hF hO hLl hLv hOv hOu hFv hr hrl hrv
  go_enter Try.func21, Try.ntmps21
  go_upto_region 1 with fail
  have H0 := Lib.hid (show BxL w.heap.size w [(#[.int .i64 0, .int .i64 0, .slice none 0 0, .slice none 0 0], 39)] (w.alloc (.cells #[.int .i64 0, .int .i64 0, .slice none 0 0, .slice none 0 0] 39)) from ((BxL.nil (Below.refl w.heap.size w)).new (by simp) #[.int .i64 0, .int .i64 0, .slice none 0 0, .slice none 0 0] 39))
  obtain ⟨W0, hW0⟩ : ∃ W, W = (w.alloc (.cells #[.int .i64 0, .int .i64 0, .slice none 0 0, .slice none 0 0] 39)) := ⟨_, rfl⟩
  rw [← hW0] at H0 ⊢
  clear hW0
  have HB0 := Lib.hid (H0.out.below)
  go_wp2_with (first
    | (go_at_call 45; (with_reducible refine (HCO.out _ HB0.out).mono ?_); rintro e w1 ⟨v1, rfl, ho1, hb1⟩; obtain ⟨A1, c1, rfl⟩ := ownLen ho1; have hr1 := own_reads ho1; clear ho1)
    | (go_at_call 44; (with_reducible refine (HSO.out _ _ _ hr1).mono ?_); rintro e w2 ⟨v2, rfl, ho2, hb2⟩; obtain ⟨A2, c2, rfl⟩ := ownLen ho2; have hr2 := own_reads ho2; clear ho2; have hb02 := hb1.trans (hb2.mono hb1.size); clear hr1 hb2)
    | (go_at_call 46; (with_reducible refine (HDI.out _ _ _ hr2).mono ?_); rintro e w3 ⟨v3, rfl, ho3, hb3⟩; obtain ⟨A3, c3, rfl⟩ := ownLen ho3; clear ho3; have hr3 := hr2.below hb3; have hb03 := hb02.trans (hb3.mono hb02.size); clear hr2)
    | (go_at_call 47; (with_reducible refine (HEN.out _ _ _ hr3).mono ?_); rintro e w4 ⟨v4, rfl, ho4, hb4⟩; obtain ⟨A4, c4, rfl⟩ := ownLen ho4; have hr4 := hr3.below hb4; have hb04 := hb03.trans (hb4.mono hb03.size); clear hr3)
    | (go_at_call 48; (with_reducible refine (HCM.out _ _ _ hr4).mono ?_); rintro e w5 ⟨A5, c5, rfl, hr5, ht5, hb5⟩; have ho5 := ownBelow ho4 hb5; have hb05 := hb04.trans (hb5.mono hb04.size); have HX5 := Lib.hid (blkOld H0.out.get0 hb05))
    | (with_reducible refine listStore (by kernel_rfl) 39 (.tmp 4) (.tmp 22) rfl w.heap.size #[.int .i64 nu, .int .i64 (D.length : Int), .slice A4 E.length c4, .slice A5 C.length c5] _ _ rfl rfl HX5.out (by kernel_rfl) (by kernel_rfl) (by kernel_rfl) ?_))
  refine bodyPost_ret (v := .agg #[.int .i64 nu, .int .i64 (D.length : Int), .slice A4 E.length c4, .slice A5 C.length c5]) (results_cell rfl _ _ rfl (load_whole (setRow_heap _ _ _ _ _ _ HX5.out) Try.underlying39 (by kernel_rfl) (by kernel_rfl))) rfl ?_
  have hge : w.heap.size < W0.heap.size := H0.out.lt (i := 0) (by simp)
  have h3 := hb03.size
  have h4 := hb04.size
  have hne : ∀ {t : TypeId} {A' : Option Addr} {n : Nat} {u : World}, W0.heap.size ≤ n → NewT n u t A' → ∀ ad, A' = some ad → ad.block ≠ w.heap.size := fun hn h ad e => by have := (h ad e).1; omega
  refine ⟨⟨⟨nu, (D.length : Int), E, C⟩, A4, c4, A5, c5⟩, rfl, HCS.out.symm, ⟨⟨?_, ?_⟩, ?_, ?_⟩, belowRow (Nat.le_refl _) (HB0.out.trans (hb05.mono (Nat.le_of_lt hge))) _⟩
  · exact (own_reads ho5).offRow _ _ (fun _ => hne h3 (NewT.own ho5))
  · exact hr5.offRow _ _ (fun _ => hne h4 ht5)
  · exact ((NewT.own ho5).mono (by omega)).row _ _
  · exact (ht5.mono (by omega)).row _ _
end Go.Proofs.Ytmhpbmobfdgkeaa
/- The walk over the reference of statistics: Of. -/
namespace Go.Proofs.Ytmhpbmobfdgkeaa
open Go.RowKit
set_option maxRecDepth 100000 in
set_option maxHeartbeats 8000000 in
theorem rOf_any (t : ByteArray) (rows : List PRow) (hl : rows.length ≤ 1000) (hrl : ∀ r ∈ rows, r.l.length ≤ 140737488355328) (hrv : ∀ r ∈ rows, ∀ v ∈ r.l, ValB v) (width pages : Int) (hwd : -9223372036854775808 ≤ width ∧ width ≤ 9223372036854775807) (A : Option Addr) (c : Nat) (w : World) (hr : RowsR w A c rows) :
    Calls Try.prog 10 #[.string t, .slice A rows.length c, .int .i64 width, .int .i64 pages] w (fun e w' => ∃ p : PStat, e = .returned (.agg (statA p)) ∧ p.plain = Sp.statOf t (rows.map (·.l)) width pages ∧ PStatR w' p ∧ Below w.heap.size w w') := by
  have HR := Lib.hid hr
  have HRL := Lib.hid hrl
  clear hr hrl
  obtain ⟨L, hL⟩ : ∃ L, L = rows.map (·.l) := ⟨_, rfl⟩
  have hLl : L.length = rows.length := by rw [hL, List.length_map]
  have HAL := Lib.hid (show ∀ i, (Sp.colAt L i).length = rows.length from fun i => by unfold Sp.colAt; rw [List.length_map, hLl])
  obtain ⟨W, hW⟩ : ∃ W, W = Sp.widthS width := ⟨_, rfl⟩
  have hW16 : W ≤ 16 := by rw [hW]; unfold Sp.widthS; omega
  have hWI : min (max width 0) 16 = (W : Int) := by rw [hW]; unfold Sp.widthS; omega
  obtain ⟨pg, hpg⟩ : ∃ pg, pg = max pages 0 := ⟨_, rfl⟩
  have HPL := Lib.hid (show Sp.statOf t L width pages = ⟨t, (rows.length : Int), pg, colsTo L W⟩ from by unfold Sp.statOf colsTo; rw [← hW, ← hpg, hLl])
  rw [← hL]
  have HCOL := Lib.hid (show ∀ (i : Nat) (hi : i < 16) W', Below w.heap.size w W' → Calls Try.prog 21 #[.slice A rows.length c, .int .i64 (i : Int)] W' (fun e w' => ∃ p : PCol, e = .returned (.agg (colA p)) ∧ p.c = Sp.colS (Sp.colAt L i) ∧ PColN W'.heap.size w' p ∧ Below W'.heap.size W' w') from fun i hi W' hb => by rw [hL]; exact rcol_any rows hl HRL.out hrv i (by omega) A c W' (HR.out.below hb))
  have hpgI : max pages 0 = pg := hpg.symm
  clear hL hLl hW hpg HRL HR
  go_enter Try.func10, Try.ntmps10
  go_upto_region 1 with fail
  have H0 := Lib.hid (show BxL w.heap.size w [(#[.string ⟨#[]⟩, .int .i64 0, .int .i64 0, .slice none 0 0], 28)] (w.alloc (.cells #[.string ⟨#[]⟩, .int .i64 0, .int .i64 0, .slice none 0 0] 28)) from ((BxL.nil (Below.refl w.heap.size w)).new (by simp) #[.string ⟨#[]⟩, .int .i64 0, .int .i64 0, .slice none 0 0] 28))
  obtain ⟨W0, hW0⟩ : ∃ W, W = (w.alloc (.cells #[.string ⟨#[]⟩, .int .i64 0, .int .i64 0, .slice none 0 0] 28)) := ⟨_, rfl⟩
  rw [← hW0] at H0 ⊢
  clear hW0
  go_upto_region 2 with (with_reducible refine wpList_store_new rfl 28 (.tmp 9) (.tmp 16) rfl #[.string t, .int .i64 (rows.length : Int), .int .i64 pg, (.slice none 0 0)] _ _ rfl (by kernel_rfl) (by kernel_rfl) (by kernel_rfl) (by kernel_rfl) ?_)
  clear hpgI
  obtain ⟨gx, hgx⟩ : ∃ g, g = W0.heap.size := ⟨_, rfl⟩
  have HXB := Lib.hid (heap_alloc_new W0 (.cells #[.string t, .int .i64 (rows.length : Int), .int .i64 pg, (.slice none 0 0)] 28))
  have hB5 := allocB W0 (.cells #[.string t, .int .i64 (rows.length : Int), .int .i64 pg, (.slice none 0 0)] 28)
  have HGW := Lib.hid (show w.heap.size < gx from by have := H0.out.lt (i := 0) (by simp); omega)
  obtain ⟨W5, hW5⟩ : ∃ W, W = W0.alloc (.cells #[.string t, .int .i64 (rows.length : Int), .int .i64 pg, (.slice none 0 0)] 28) := ⟨_, rfl⟩
  rw [← hgx, ← hW5] at HXB hB5
  rw [← hW5, ← hgx]
  have HX5 := Lib.hid (And.intro HXB.out hB5)
  have HGX := Lib.hid hgx
  clear hgx hW5 hB5 HXB
  simp only [Act.put]
  go_wp2_with fail
  clear HAL
  go_loopw [10] (fun i wr => ∃ (j : Nat) (EA : Option Addr) (ec : Nat) (ps : List PCol), j ≤ W ∧ i = .int .i64 (j : Int) ∧ ps.length = j ∧ ps.map (·.c) = colsTo L j ∧ wr.ownsRow (gx + 1) 39 4 (.slice EA j ec) j (ps.flatMap colC) ∧ (∀ p ∈ ps, PColN (gx + 1) wr p) ∧ wr.heap[gx]? = some (.cells #[.string t, .int .i64 (rows.length : Int), .int .i64 pg, (.slice EA j ec)] 28 (0, 0)) ∧ Below gx W0 wr) (fun i _ => W - (intOf i).toNat)
  case atStart => exact ⟨0, none, 0, [], Nat.zero_le _, rfl, rfl, rfl, ownNil _ _ _ _, fun p hp => (by cases hp), HX5.out.1, HX5.out.2⟩
  case round =>
    clear HX5
    obtain ⟨j, EA, ec, ps, hj, rfl, hpl, hpc, ho, hps, hbox, hbw⟩ := hrel
    have HPL2 := Lib.hid hpl
    have HPC := Lib.hid hpc
    have HO := Lib.hid ho
    have HPS := Lib.hid hps
    have HBX := Lib.hid hbox
    have HBW := Lib.hid hbw
    clear hpl hpc ho hps hbox hbw
    have hj0 : (0 : Int) ≤ (j : Int) := by omega
    by_cases hlt : j < W
    · have hji : (j : Int) < min width 16 := by omega
      have hwj : IntKind.i64.wrap ((j : Int) + 1) = (j : Int) + 1 := IntWalk.i64_in _ (by omega)
      have HCJ := Lib.hid (HCOL.out j (by omega))
      have HNX := Lib.hid (colsTo_succ L j)
      generalize Sp.colS (Sp.colAt L j) = col at HCJ HNX
      go_upto_region 5 with fail
      have hSn : wr.drew.heap[gx]? = some (.cells #[.string t, .int .i64 (rows.length : Int), .int .i64 pg, (.slice EA j ec)] 28 (0, 0)) := HBX.out
      have hO9 := ownBelow HO.out (Below.refl _ wr).drew
      have hP9 : ∀ p ∈ ps, PColN (gx + 1) wr.drew p := fun p hp => (HPS.out p hp).below (Below.refl _ wr).drew
      have hB9 : Below gx W0 wr.drew := HBW.out.drew
      refine wp_region_Z (S := (fun u => u.heap[gx]? = some (.cells #[.string t, .int .i64 (rows.length : Int), .int .i64 pg, (.slice EA j ec)] 28 (0, 0)))) 8 (by kernel_rfl) ?_ (fun hHeld => ?_)
      · exact hSn
      generalize wr.drew = w9 at hSn hO9 hP9 hB9 ⊢
      refine wpAnyZ_take (i := 0) (oi := { dst := some 23, op := _, type := _, pos := _, after := _, guard := _ }) (v := ?_) (p := [8]) rfl (by kernel_rfl) (by kernel_rfl) (by kernel_rfl) (by kernel_rfl) (by kernel_rfl) (by kernel_rfl) (fun _ _ _ h => h) (Or.inl ⟨by rfl, ?_⟩) (by assumption) ?_
      rotate_left
      · intro u hSu; have hSv := blkCell hSu; clear hSu; go_simp; (try with_reducible rfl)
      try simp only [Act.put, List.setIfInBounds_toArray, List.set_cons_zero, List.set_cons_succ]
      refine wpAnyZ_take (i := 1) (oi := { dst := some 24, op := _, type := _, pos := _, after := _, guard := _ }) (v := ?_) (p := [8]) rfl (by kernel_rfl) (by kernel_rfl) (by kernel_rfl) (by kernel_rfl) (by kernel_rfl) (by kernel_rfl) (fun _ _ _ h => h) (Or.inl ⟨by rfl, ?_⟩) (by assumption) ?_
      rotate_left
      · intro u hSu; have hSv := blkCell hSu; clear hSu; go_simp; (try with_reducible rfl)
      try simp only [Act.put, List.setIfInBounds_toArray, List.set_cons_zero, List.set_cons_succ]
      refine wpAnyZ_take (i := 2) (oi := { dst := some 25, op := _, type := _, pos := _, after := _, guard := _ }) (v := ?_) (p := [8]) rfl (by kernel_rfl) (by kernel_rfl) (by kernel_rfl) (by kernel_rfl) (by kernel_rfl) (by kernel_rfl) (fun _ _ _ h => h) (Or.inl ⟨by rfl, ?_⟩) (by assumption) ?_
      rotate_left
      · intro u hSu; have hSv := blkCell hSu; clear hSu; go_simp; (try with_reducible rfl)
      try simp only [Act.put, List.setIfInBounds_toArray, List.set_cons_zero, List.set_cons_succ]
      refine wpAnyZ_take (i := 3) (oi := { dst := some 26, op := _, type := _, pos := _, after := _, guard := _ }) (v := ?_) (p := [8]) rfl (by kernel_rfl) (by kernel_rfl) (by kernel_rfl) (by kernel_rfl) (by kernel_rfl) (by kernel_rfl) (fun _ _ _ h => h) (Or.inl ⟨by rfl, ?_⟩) (by assumption) ?_
      rotate_left
      · intro u hSu; have hSv := blkCell hSu; clear hSu; go_simp; (try with_reducible rfl)
      try simp only [Act.put, List.setIfInBounds_toArray, List.set_cons_zero, List.set_cons_succ]
      refine wpAnyZ_ready (rs := [4]) (by kernel_rfl) (by simp) ?_
      refine AllReadyZ.cons (o := { dst := some 27, op := _, type := _, pos := _, after := _, guard := _ }) rfl (fun K hK => ?_) ?_
      rotate_left
      · exact AllReadyZ.nil
      go_simp
      (with_reducible refine (HCJ.out _ (H0.out.below.trans (hB9.mono (Nat.le_of_lt HGW.out)))).mono ?_); rintro e w2 ⟨p2, rfl, hc2, hn2, hb2⟩
      have hn3 := hn2.mono (show gx + 1 ≤ w9.heap.size from heapLt hSn)
      have hSa := blkOld hSn hb2
      have hOa := ownBelow hO9 hb2
      have hPa : ∀ p ∈ ps, PColN (gx + 1) w2 p := fun p hp => (hP9 p hp).below hb2
      have hBa := hB9.trans (hb2.mono (by rw [HGX.out]; exact hB9.size))
      clear hSn hO9 hP9 hB9
      have hSn := hSa
      have hO9 := hOa
      have hP9 := hPa
      have hB9 := hBa
      clear hSa hOa hPa hBa
      obtain ⟨⟨nu, di, es, cs⟩, E, ec2, C, cc⟩ := p2
      dsimp only [colA]
      refine hK.out _ _ ?_ (fun hHeld => ?_)
      · exact hSn
      clear hK K
      try simp only [Act.put, List.setIfInBounds_toArray, List.set_cons_zero, List.set_cons_succ]
      refine wpAnyZ_ready (rs := [5]) (by kernel_rfl) (by simp) ?_
      refine AllReadyZ.cons (o := { dst := some 28, op := _, type := _, pos := _, after := _, guard := _ }) rfl (fun K hK => ?_) ?_
      rotate_left
      · exact AllReadyZ.nil
      go_simp
      have hAl := allocB w2 (.cells #[.int .i64 nu, .int .i64 di, .slice E es.length ec2, .slice C cs.length cc] 39)
      have hGb := heap_alloc_new w2 (.cells #[.int .i64 nu, .int .i64 di, .slice E es.length ec2, .slice C cs.length cc] 39)
      have hn4 := hn3.below hAl
      have hSa := blkOld hSn hAl
      have hOa := ownBelow hO9 hAl
      have hPa : ∀ p ∈ ps, PColN (gx + 1) (w2.alloc (.cells #[.int .i64 nu, .int .i64 di, .slice E es.length ec2, .slice C cs.length cc] 39)) p := fun p hp => (hP9 p hp).below hAl
      have hBa := hB9.trans (hAl.mono (by rw [HGX.out]; exact hB9.size))
      clear hSn hO9 hP9 hB9
      have hSn := hSa
      have hO9 := hOa
      have hP9 := hPa
      have hB9 := hBa
      clear hSa hOa hPa hBa
      refine hK.out _ _ ?_ (fun hHeld => ?_)
      · exact hSn
      clear hK K
      try simp only [Act.put, List.setIfInBounds_toArray, List.set_cons_zero, List.set_cons_succ]
      refine wpAnyZ_ready (rs := [6]) (by kernel_rfl) (by simp) ?_
      refine AllReadyZ.cons (o := { dst := some 29, op := _, type := _, pos := _, after := _, guard := _ }) rfl (fun K hK => ?_) ?_
      rotate_left
      · exact AllReadyZ.nil
      refine wantedIf (by rfl) ?_
      refine wp_push _ (.tmp 24) (.tmp 28) 26 39 Try.underlying26 info_col rfl (by omega) (by omega) rfl (gx + 1) _ j (ps.flatMap colC) rfl hO9 w2.heap.size (colC ⟨⟨nu, di, es, cs⟩, E, ec2, C, cc⟩) 39 rfl hGb rfl (colC_one _) (by omega) (by have := heapLt hSn; omega) ?_
      intro v7 w7 ho7 hg7 hb7
      obtain ⟨A7, c7, rfl⟩ := ownLen ho7
      have hP7 : ∀ p ∈ ps, PColN (gx + 1) w7 p := fun p hp => (hP9 p hp).grown hO9 (by decide) (by decide) hg7
      have hn7 := hn4.grown hO9 (by decide) (by decide) hg7
      have hSa : w7.heap[gx]? = some (.cells #[.string t, .int .i64 (rows.length : Int), .int .i64 pg, (.slice EA j ec)] 28 (0, 0)) := (hb7.block gx (Nat.lt_succ_self _)).trans hSn
      have hB7 := hB9.trans (hb7.mono (Nat.le_succ _))
      clear hSn
      have hSn := hSa
      clear hSa
      have hcx7 := blkCell hSn
      have hz7 := blkFrozen hSn
      refine hK.out _ _ ?_ (fun hHeld => ?_)
      · exact hSn
      clear hK K
      try simp only [Act.put, List.setIfInBounds_toArray, List.set_cons_zero, List.set_cons_succ]
      refine wpAnyZ_take (i := 7) (oi := { dst := some 30, op := _, type := _, pos := _, after := _, guard := _ }) (v := ?_) (p := [8]) rfl (by kernel_rfl) (by kernel_rfl) (by kernel_rfl) (by kernel_rfl) (by kernel_rfl) (by kernel_rfl) (fun _ _ _ h => h) (Or.inl ⟨by rfl, ?_⟩) (by assumption) ?_
      rotate_left
      · intro u hSu; have hSv := blkCell hSu; clear hSu; go_simp; (try with_reducible rfl)
      try simp only [Act.put, List.setIfInBounds_toArray, List.set_cons_zero, List.set_cons_succ]
      refine wpAnyZ_ready (rs := [8]) (by kernel_rfl) (by simp) ?_
      refine AllReadyZ.last (o := { dst := none, op := _, type := _, pos := _, after := _, guard := _ }) rfl (by kernel_rfl) (fun K hK => ?_) ?_
      rotate_left
      · exact AllReadyZ.nil
      go_simp
      refine hK.out _ _ ?_
      clear hK K
      try simp only [Act.put]
      refine wpAnyZ_done (by kernel_rfl) ?_ _
      clear hHeld
      go_wp2_with fail
      go_roundw
      case rel =>
        refine ⟨j + 1, A7, c7, ps ++ [⟨⟨nu, di, es, cs⟩, E, ec2, C, cc⟩], by omega, by go_num, by rw [List.length_append, HPL2.out]; rfl, ?_, ?_, ?_, ?_, ?_⟩
        · rw [List.map_append, HPC.out, HNX.out, ← hc2]; rfl
        · have := ownSet ho7 ⟨gx, 3, none⟩ (.slice A7 (j + 1) c7) (by show gx < gx + 1; omega)
          rw [List.flatMap_append]
          simpa using this
        · intro p hp
          rcases List.mem_append.1 hp with h1 | h1
          · exact (hP7 p h1).set gx 3 _ (Nat.lt_succ_self _)
          · rw [List.mem_singleton.1 h1]
            exact hn7.set gx 3 _ (Nat.lt_succ_self _)
        · have := blkSet 3 hSn (.slice A7 (j + 1) c7)
          simpa using this
        · exact hB7.trans ((Below.refl _ _).setCell (p := ⟨gx, 3, none⟩) (Nat.le_refl _) _)
      case measure => simp [intOf]; omega
    · obtain rfl : j = W := by omega
      have hji : ¬ (j : Int) < min width 16 := by omega
      have HZ9 := Lib.hid (show wr.heap[w.heap.size]? = some (.cells #[.string ⟨#[]⟩, .int .i64 0, .int .i64 0, .slice none 0 0] 28 (0, 0)) from (HBW.out.block _ HGW.out).trans H0.out.get0)
      have HW9 := Lib.hid (H0.out.below.trans (HBW.out.mono (Nat.le_of_lt HGW.out)))
      go_wp2_with (first | (with_reducible refine listLoad (by kernel_rfl) 28 (.tmp 9) rfl gx rfl #[.string t, .int .i64 (rows.length : Int), .int .i64 pg, (.slice EA j ec)] _ HBX.out _ Try.underlying28 (by kernel_rfl) (by kernel_rfl) ?_) | (with_reducible refine listStore (by kernel_rfl) 28 (.tmp 8) (.tmp 31) rfl w.heap.size #[.string t, .int .i64 (rows.length : Int), .int .i64 pg, (.slice EA j ec)] _ _ rfl rfl HZ9.out (by kernel_rfl) (by kernel_rfl) (by kernel_rfl) ?_))
      refine bodyPost_ret (v := .agg #[.string t, .int .i64 (rows.length : Int), .int .i64 pg, (.slice EA j ec)]) (results_cell rfl _ _ rfl (load_whole (setRow_heap _ _ _ _ _ _ HZ9.out) Try.underlying28 (by kernel_rfl) (by kernel_rfl))) rfl ?_
      have hge := HGW.out
      have ho := HO.out
      have hne : ∀ ad, EA = some ad → ad.block ≠ w.heap.size := fun ad e => by have := (NewT.own ho ad e).1; omega
      refine ⟨⟨t, (rows.length : Int), pg, ps, EA, ec⟩, by simp only [statA, HPL2.out], by rw [HPL.out]; unfold PStat.plain; simp only; rw [HPC.out], ⟨?_, fun q hq => ((HPS.out q hq).row _ _ (by omega)).rr⟩, belowRow (Nat.le_refl _) HW9.out _⟩
      show Reads _ EA ec ps.length _
      rw [HPL2.out]
      exact (own_reads ho).offRow _ _ (fun _ => hne)
end Go.Proofs.Ytmhpbmobfdgkeaa
