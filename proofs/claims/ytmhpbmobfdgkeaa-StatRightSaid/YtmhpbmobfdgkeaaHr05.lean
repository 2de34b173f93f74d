/- The walk over package stat: Right. -/
import Derived.Test.YtmhpbmobfdgkeaaHr04
namespace Go.Proofs.Ytmhpbmobfdgkeaa
open Go.RowKit
/-- Statistics as an argument holds them. -/
structure StatB (p : PStat) : Prop where
  col : ∀ c ∈ p.cols, ColB c.c
  len : p.cols.length ≤ 140737488355328
set_option maxRecDepth 100000 in
set_option maxHeartbeats 4000000 in
theorem sright_any (p : PStat) (hb : StatB p) (w : World) (hR : PStatR w p) :
    Calls Try.prog 12 #[.agg (statA p)] w (Says (Sp.rightS p.plain) w) := by
  have HB := Lib.hid hb
  have HR := Lib.hid hR.cols
  have HC := Lib.hid hR.col
  obtain ⟨tb, rw, pg, cols, A, c⟩ := p
  simp only at HR HC
  have hcl := HB.out.len
  have HBC := Lib.hid HB.out.col
  simp only at hcl HBC
  have HY := Lib.hid (fun (h : Sp.rightS (PStat.plain ⟨tb, rw, pg, cols, A, c⟩)) w' hb (e : Ending) he => says_yes (w := w) (w' := w') (e := e) h he hb)
  have HN := Lib.hid (fun (h : ¬ Sp.rightS (PStat.plain ⟨tb, rw, pg, cols, A, c⟩)) w' hb (e : Ending) he => says_no (w := w) (w' := w') (e := e) h he hb)
  have HDEF := Lib.hid (show Sp.rightS (PStat.plain ⟨tb, rw, pg, cols, A, c⟩) ↔ (0 ≤ rw ∧ rw ≤ 1000000000000 ∧ 0 ≤ pg ∧ pg ≤ 1000000000000) ∧ ∀ q ∈ cols, Sp.colOk rw q.c from by
    unfold Sp.rightS PStat.plain
    simp only [List.mem_map, forall_exists_index, and_imp, forall_apply_eq_imp_iff₂])
  generalize Sp.rightS (PStat.plain ⟨tb, rw, pg, cols, A, c⟩) = P at HY HN HDEF ⊢
  generalize Says P w = Q at HY HN ⊢
  clear hb hR HB
  dsimp only [statA]
  by_cases r0 : rw < 0
  · have HF := Lib.hid (HN.out (fun h => by have := (HDEF.out.1 h).1.1; omega))
    clear HDEF HN HY
    go_enter Try.func12, Try.ntmps12
    go_upto_region 1 with fail
    have H0 := Lib.hid (show BxL w.heap.size w [(#[.string tb, .int .i64 rw, .int .i64 pg, .slice A cols.length c], 28)] (w.alloc (.cells #[.string tb, .int .i64 rw, .int .i64 pg, .slice A cols.length c] 28)) from ((BxL.nil (Below.refl w.heap.size w)).new (by simp) #[.string tb, .int .i64 rw, .int .i64 pg, .slice A cols.length c] 28))
    obtain ⟨W0, hW0⟩ : ∃ W, W = (w.alloc (.cells #[.string tb, .int .i64 rw, .int .i64 pg, .slice A cols.length c] 28)) := ⟨_, rfl⟩
    rw [← hW0] at H0 ⊢
    clear hW0
    have hc0 := blkCell H0.out.get0
    go_wp2_with fail
    exact HF.out _ H0.out.below _ (by simp [*])
  by_cases r1 : 1000000000000 < rw
  · have HF := Lib.hid (HN.out (fun h => by have := (HDEF.out.1 h).1.2.1; omega))
    clear HDEF HN HY
    go_enter Try.func12, Try.ntmps12
    go_upto_region 1 with fail
    have H0 := Lib.hid (show BxL w.heap.size w [(#[.string tb, .int .i64 rw, .int .i64 pg, .slice A cols.length c], 28)] (w.alloc (.cells #[.string tb, .int .i64 rw, .int .i64 pg, .slice A cols.length c] 28)) from ((BxL.nil (Below.refl w.heap.size w)).new (by simp) #[.string tb, .int .i64 rw, .int .i64 pg, .slice A cols.length c] 28))
    obtain ⟨W0, hW0⟩ : ∃ W, W = (w.alloc (.cells #[.string tb, .int .i64 rw, .int .i64 pg, .slice A cols.length c] 28)) := ⟨_, rfl⟩
    rw [← hW0] at H0 ⊢
    clear hW0
    have hc0 := blkCell H0.out.get0
    go_wp2_with fail
    exact HF.out _ H0.out.below _ (by simp [*])
  by_cases r2 : pg < 0
  · have HF := Lib.hid (HN.out (fun h => by have := (HDEF.out.1 h).1.2.2.1; omega))
    clear HDEF HN HY
    go_enter Try.func12, Try.ntmps12
    go_upto_region 1 with fail
    have H0 := Lib.hid (show BxL w.heap.size w [(#[.string tb, .int .i64 rw, .int .i64 pg, .slice A cols.length c], 28)] (w.alloc (.cells #[.string tb, .int .i64 rw, .int .i64 pg, .slice A cols.length c] 28)) from ((BxL.nil (Below.refl w.heap.size w)).new (by simp) #[.string tb, .int .i64 rw, .int .i64 pg, .slice A cols.length c] 28))
    obtain ⟨W0, hW0⟩ : ∃ W, W = (w.alloc (.cells #[.string tb, .int .i64 rw, .int .i64 pg, .slice A cols.length c] 28)) := ⟨_, rfl⟩
    rw [← hW0] at H0 ⊢
    clear hW0
    have hc0 := blkCell H0.out.get0
    go_wp2_with fail
    exact HF.out _ H0.out.below _ (by simp [*])
  by_cases r3 : 1000000000000 < pg
  · have HF := Lib.hid (HN.out (fun h => by have := (HDEF.out.1 h).1.2.2.2; omega))
    clear HDEF HN HY
    go_enter Try.func12, Try.ntmps12
    go_upto_region 1 with fail
    have H0 := Lib.hid (show BxL w.heap.size w [(#[.string tb, .int .i64 rw, .int .i64 pg, .slice A cols.length c], 28)] (w.alloc (.cells #[.string tb, .int .i64 rw, .int .i64 pg, .slice A cols.length c] 28)) from ((BxL.nil (Below.refl w.heap.size w)).new (by simp) #[.string tb, .int .i64 rw, .int .i64 pg, .slice A cols.length c] 28))
    obtain ⟨W0, hW0⟩ : ∃ W, W = (w.alloc (.cells #[.string tb, .int .i64 rw, .int .i64 pg, .slice A cols.length c] 28)) := ⟨_, rfl⟩
    rw [← hW0] at H0 ⊢
    clear hW0
    have hc0 := blkCell H0.out.get0
    go_wp2_with fail
    exact HF.out _ H0.out.below _ (by simp [*])
  go_enter Try.func12, Try.ntmps12
  go_upto_region 1 with fail
  have H0 := Lib.hid (show BxL w.heap.size w [(#[.string tb, .int .i64 rw, .int .i64 pg, .slice A cols.length c], 28)] (w.alloc (.cells #[.string tb, .int .i64 rw, .int .i64 pg, .slice A cols.length c] 28)) from ((BxL.nil (Below.refl w.heap.size w)).new (by simp) #[.string tb, .int .i64 rw, .int .i64 pg, .slice A cols.length c] 28))
  obtain ⟨W0, hW0⟩ : ∃ W, W = (w.alloc (.cells #[.string tb, .int .i64 rw, .int .i64 pg, .slice A cols.length c] 28)) := ⟨_, rfl⟩
  rw [← hW0] at H0 ⊢
  clear hW0
  have hc0 := blkCell H0.out.get0
  go_wp2_with fail
  clear hc0
  go_loopw [26] (fun i wr => ∃ k : Nat, k ≤ cols.length ∧ i = .int .i64 k ∧ (∀ j (hj : j < cols.length), j < k → Sp.colOk rw cols[j].c) ∧ BxL w.heap.size w [(#[.string tb, .int .i64 rw, .int .i64 pg, .slice A cols.length c], 28)] wr) (fun i _ => cols.length - (intOf i).toNat)
  case atStart => exact ⟨0, Nat.zero_le _, rfl, fun _ _ h => absurd h (by omega), H0.out⟩
  case round =>
    obtain ⟨k, hk, rfl, hall, hbx⟩ := hrel
    have HA := Lib.hid hall
    have HX := Lib.hid hbx
    clear hall hbx H0
    by_cases hlt : k < cols.length
    · obtain ⟨b, off, rfl, hca, hbl, hcell⟩ := read_at colC_len (HR.out.below HX.out.below) hlt
      have hvb := HBC.out cols[k] (List.getElem_mem hlt)
      have hvr := (HC.out cols[k] (List.getElem_mem hlt)).below HX.out.below
      have HNC := Lib.hid (show ¬ Sp.colOk rw cols[k].c → ¬ P from fun h hP => h ((HDEF.out.1 hP).2 _ (List.getElem_mem hlt)))
      have HYC := Lib.hid (show Sp.colOk rw cols[k].c → ∀ j (hj : j < cols.length), j < k + 1 → Sp.colOk rw cols[j].c from fun h j hj hjk => by
        rcases Nat.lt_or_eq_of_le (Nat.le_of_lt_succ hjk) with h1 | h1
        · exact HA.out j hj h1
        · subst h1; exact h)
      generalize cols[k] = x at hcell hvb hvr HNC HYC
      obtain ⟨⟨nu, di, es, cs⟩, E, ec, C, cc⟩ := x
      simp only at HNC HYC
      have HCELL := Lib.hid (show wr.rangeAt b (off + k * 4) [.int .i64 nu, .int .i64 di, .slice E es.length ec, .slice C cs.length cc] from hcell)
      have HVR := Lib.hid hvr
      clear hcell HA hvr
      have HDC := Lib.hid (show Sp.colOk rw ⟨nu, di, es, cs⟩ ↔ (0 ≤ nu ∧ nu ≤ rw ∧ 0 ≤ di ∧ di ≤ rw - nu) ∧ Sp.commonOk ⟨nu, di, es, cs⟩ (rw - nu) ∧ Sp.endsOk ⟨nu, di, es, cs⟩ from Iff.rfl)
      have hk0 : (0 : Int) ≤ (k : Int) := by omega
      have hki : (k : Int) < (cols.length : Int) := by omega
      have hwk : IntKind.i64.wrap ((k : Int) + 1) = (k : Int) + 1 := IntWalk.i64_in _ (by omega)
      have HCB := Lib.hid (HX.out.step (allocB wr (.cells #[.int .i64 nu, .int .i64 di, .slice E es.length ec, .slice C cs.length cc] 39)))
      have HOB := Lib.hid (heap_alloc_new wr (.cells #[.int .i64 nu, .int .i64 di, .slice E es.length ec, .slice C cs.length cc] 39))
      by_cases n0 : nu < 0
      · have HF := Lib.hid (HN.out (HNC.out (fun h => by have := (HDC.out.1 h).1.1; omega)))
        clear HNC HYC HDC HN HY HDEF
        have hx0 := blkCell HCB.out.get0
        have hx1 := blkCell HOB.out
        go_wp2_with (first | (with_reducible refine wpList_load_mid rfl 39 (.tmp 28) rfl b (off + k * 4) rfl [.int .i64 nu, .int .i64 di, .slice E es.length ec, .slice C cs.length cc] _ HCELL.out Try.underlying39 (by kernel_rfl) (by kernel_rfl) ?_) | (with_reducible refine wpList_store_new rfl 39 (.tmp 4) (.tmp 29) rfl #[.int .i64 nu, .int .i64 di, .slice E es.length ec, .slice C cs.length cc] _ _ rfl (by kernel_rfl) (by kernel_rfl) (by kernel_rfl) (by kernel_rfl) ?_))
        exact HF.out _ HCB.out.below _ (by simp)
      by_cases n1 : rw < nu
      · have HF := Lib.hid (HN.out (HNC.out (fun h => by have := (HDC.out.1 h).1.2.1; omega)))
        clear HNC HYC HDC HN HY HDEF
        have hx0 := blkCell HCB.out.get0
        have hx1 := blkCell HOB.out
        go_wp2_with (first | (with_reducible refine wpList_load_mid rfl 39 (.tmp 28) rfl b (off + k * 4) rfl [.int .i64 nu, .int .i64 di, .slice E es.length ec, .slice C cs.length cc] _ HCELL.out Try.underlying39 (by kernel_rfl) (by kernel_rfl) ?_) | (with_reducible refine wpList_store_new rfl 39 (.tmp 4) (.tmp 29) rfl #[.int .i64 nu, .int .i64 di, .slice E es.length ec, .slice C cs.length cc] _ _ rfl (by kernel_rfl) (by kernel_rfl) (by kernel_rfl) (by kernel_rfl) ?_))
        exact HF.out _ HCB.out.below _ (by simp)
      by_cases n2 : di < 0
      · have HF := Lib.hid (HN.out (HNC.out (fun h => by have := (HDC.out.1 h).1.2.2.1; omega)))
        clear HNC HYC HDC HN HY HDEF
        have hx0 := blkCell HCB.out.get0
        have hx1 := blkCell HOB.out
        go_wp2_with (first | (with_reducible refine wpList_load_mid rfl 39 (.tmp 28) rfl b (off + k * 4) rfl [.int .i64 nu, .int .i64 di, .slice E es.length ec, .slice C cs.length cc] _ HCELL.out Try.underlying39 (by kernel_rfl) (by kernel_rfl) ?_) | (with_reducible refine wpList_store_new rfl 39 (.tmp 4) (.tmp 29) rfl #[.int .i64 nu, .int .i64 di, .slice E es.length ec, .slice C cs.length cc] _ _ rfl (by kernel_rfl) (by kernel_rfl) (by kernel_rfl) (by kernel_rfl) ?_))
        exact HF.out _ HCB.out.below _ (by simp)
      have hwn : IntKind.i64.wrap (rw - nu) = rw - nu := IntWalk.i64_in _ (by omega)
      by_cases n3 : rw - nu < di
      · have HF := Lib.hid (HN.out (HNC.out (fun h => by have := (HDC.out.1 h).1.2.2.2; omega)))
        clear HNC HYC HDC HN HY HDEF
        have hx0 := blkCell HCB.out.get0
        have hx1 := blkCell HOB.out
        go_wp2_with (first | (with_reducible refine wpList_load_mid rfl 39 (.tmp 28) rfl b (off + k * 4) rfl [.int .i64 nu, .int .i64 di, .slice E es.length ec, .slice C cs.length cc] _ HCELL.out Try.underlying39 (by kernel_rfl) (by kernel_rfl) ?_) | (with_reducible refine wpList_store_new rfl 39 (.tmp 4) (.tmp 29) rfl #[.int .i64 nu, .int .i64 di, .slice E es.length ec, .slice C cs.length cc] _ _ rfl (by kernel_rfl) (by kernel_rfl) (by kernel_rfl) (by kernel_rfl) ?_))
        exact HF.out _ HCB.out.below _ (by simp)
      have HCO := Lib.hid (fun W (hW : Below wr.heap.size wr W) => common_any ⟨⟨nu, di, es, cs⟩, E, ec, C, cc⟩ hvb (rw - nu) (by omega) (by omega) (by show 0 ≤ di; omega) (by show di ≤ rw - nu; omega) W (HVR.out.below hW))
      have HEN := Lib.hid (fun W (hW : Below wr.heap.size wr W) => ends_any ⟨⟨nu, di, es, cs⟩, E, ec, C, cc⟩ hvb W (HVR.out.below hW))
      have HBW := Lib.hid (allocB wr (.cells #[.int .i64 nu, .int .i64 di, .slice E es.length ec, .slice C cs.length cc] 39))
      dsimp only [colA] at HCO HEN
      generalize Sp.commonOk ⟨nu, di, es, cs⟩ (rw - nu) = X1 at HCO HDC
      generalize Sp.endsOk ⟨nu, di, es, cs⟩ = X2 at HEN HDC
      clear hvb
      by_cases hx : X1
      rotate_left
      · have HP := Lib.hid hx
        have HF := Lib.hid (HN.out (HNC.out (fun h => hx (HDC.out.1 h).2.1)))
        clear HNC HYC HDC HN HY HDEF hx
        have hx0 := blkCell HCB.out.get0
        have hx1 := blkCell HOB.out
        go_wp2_with (first | (with_reducible refine wpList_load_mid rfl 39 (.tmp 28) rfl b (off + k * 4) rfl [.int .i64 nu, .int .i64 di, .slice E es.length ec, .slice C cs.length cc] _ HCELL.out Try.underlying39 (by kernel_rfl) (by kernel_rfl) ?_) | (with_reducible refine wpList_store_new rfl 39 (.tmp 4) (.tmp 29) rfl #[.int .i64 nu, .int .i64 di, .slice E es.length ec, .slice C cs.length cc] _ _ rfl (by kernel_rfl) (by kernel_rfl) (by kernel_rfl) (by kernel_rfl) ?_) | (with_reducible refine listLoad (by kernel_rfl) 39 (.tmp 4) rfl wr.heap.size rfl #[.int .i64 nu, .int .i64 di, .slice E es.length ec, .slice C cs.length cc] _ HOB.out _ Try.underlying39 (by kernel_rfl) (by kernel_rfl) ?_) | (go_at_call 25; (with_reducible refine (HCO.out _ HBW.out).mono ?_); rintro e w3 ⟨q, rfl, hq, hb3⟩; obtain rfl := q_false hq HP.out; clear hq; have HOB3 := Lib.hid (blkOld HOB.out hb3); have HB3 := Lib.hid (joinB HBW.out hb3); have HX3 := Lib.hid (HCB.out.step hb3); clear hb3))
        exact HF.out _ HX3.out.below _ (by simp)
      have HP := Lib.hid hx
      by_cases hy : X2
      rotate_left
      · have HS := Lib.hid hy
        have HF := Lib.hid (HN.out (HNC.out (fun h => hy (HDC.out.1 h).2.2)))
        clear HNC HYC HDC HN HY HDEF hx hy
        have hx0 := blkCell HCB.out.get0
        have hx1 := blkCell HOB.out
        go_wp2_with (first | (with_reducible refine wpList_load_mid rfl 39 (.tmp 28) rfl b (off + k * 4) rfl [.int .i64 nu, .int .i64 di, .slice E es.length ec, .slice C cs.length cc] _ HCELL.out Try.underlying39 (by kernel_rfl) (by kernel_rfl) ?_) | (with_reducible refine wpList_store_new rfl 39 (.tmp 4) (.tmp 29) rfl #[.int .i64 nu, .int .i64 di, .slice E es.length ec, .slice C cs.length cc] _ _ rfl (by kernel_rfl) (by kernel_rfl) (by kernel_rfl) (by kernel_rfl) ?_) | (with_reducible refine listLoad (by kernel_rfl) 39 (.tmp 4) rfl wr.heap.size rfl #[.int .i64 nu, .int .i64 di, .slice E es.length ec, .slice C cs.length cc] _ HOB.out _ Try.underlying39 (by kernel_rfl) (by kernel_rfl) ?_) | (go_at_call 25; (with_reducible refine (HCO.out _ HBW.out).mono ?_); rintro e w3 ⟨q, rfl, hq, hb3⟩; obtain rfl := q_true hq HP.out; clear hq; have HOB3 := Lib.hid (blkOld HOB.out hb3); have HB3 := Lib.hid (joinB HBW.out hb3); have HX3 := Lib.hid (HCB.out.step hb3); clear hb3) | (with_reducible refine listLoad (by kernel_rfl) 39 (.tmp 4) rfl wr.heap.size rfl #[.int .i64 nu, .int .i64 di, .slice E es.length ec, .slice C cs.length cc] _ HOB3.out _ Try.underlying39 (by kernel_rfl) (by kernel_rfl) ?_) | (go_at_call 26; (with_reducible refine (HEN.out _ HB3.out).mono ?_); rintro e w4 ⟨q, rfl, hq, hb4⟩; obtain rfl := q_false hq HS.out; clear hq; have HX4 := Lib.hid (HX3.out.step hb4); clear hb4))
        exact HF.out _ HX4.out.below _ (by simp)
      have HS := Lib.hid hy
      have HG := Lib.hid (HYC.out (HDC.out.2 ⟨⟨by omega, by omega, by omega, by omega⟩, hx, hy⟩))
      clear HNC HYC HDC HN HY HDEF hx hy
      have hx0 := blkCell HCB.out.get0
      have hx1 := blkCell HOB.out
      go_wp2_with (first | (with_reducible refine wpList_load_mid rfl 39 (.tmp 28) rfl b (off + k * 4) rfl [.int .i64 nu, .int .i64 di, .slice E es.length ec, .slice C cs.length cc] _ HCELL.out Try.underlying39 (by kernel_rfl) (by kernel_rfl) ?_) | (with_reducible refine wpList_store_new rfl 39 (.tmp 4) (.tmp 29) rfl #[.int .i64 nu, .int .i64 di, .slice E es.length ec, .slice C cs.length cc] _ _ rfl (by kernel_rfl) (by kernel_rfl) (by kernel_rfl) (by kernel_rfl) ?_) | (with_reducible refine listLoad (by kernel_rfl) 39 (.tmp 4) rfl wr.heap.size rfl #[.int .i64 nu, .int .i64 di, .slice E es.length ec, .slice C cs.length cc] _ HOB.out _ Try.underlying39 (by kernel_rfl) (by kernel_rfl) ?_) | (go_at_call 25; (with_reducible refine (HCO.out _ HBW.out).mono ?_); rintro e w3 ⟨q, rfl, hq, hb3⟩; obtain rfl := q_true hq HP.out; clear hq; have HOB3 := Lib.hid (blkOld HOB.out hb3); have HB3 := Lib.hid (joinB HBW.out hb3); have HX3 := Lib.hid (HCB.out.step hb3); clear hb3) | (with_reducible refine listLoad (by kernel_rfl) 39 (.tmp 4) rfl wr.heap.size rfl #[.int .i64 nu, .int .i64 di, .slice E es.length ec, .slice C cs.length cc] _ HOB3.out _ Try.underlying39 (by kernel_rfl) (by kernel_rfl) ?_) | (go_at_call 26; (with_reducible refine (HEN.out _ HB3.out).mono ?_); rintro e w4 ⟨q, rfl, hq, hb4⟩; obtain rfl := q_true hq HS.out; clear hq; have HX4 := Lib.hid (HX3.out.step hb4); clear hb4))
      go_roundw
      case rel => exact ⟨k + 1, by omega, by go_num, HG.out, HX4.out⟩
      case measure => simp [intOf]; omega
    · have HF := Lib.hid (HY.out (HDEF.out.2 ⟨⟨by omega, by omega, by omega, by omega⟩, fun q hq => by
        obtain ⟨j, hj, rfl⟩ := List.getElem_of_mem hq
        exact HA.out j hj (by omega)⟩) _ HX.out.below)
      clear HN HY HDEF
      go_wp2_with fail
      exact HF.out _ (by simp)
end Go.Proofs.Ytmhpbmobfdgkeaa
