/- The walk over package stat: Right. -/
import Derived.Test.YtmhpbmobfdgkeaaHm04
import Derived.Laws.StructEq
import Derived.Shelf.SlSortCmp.NoneTotal
import Derived.Deep.MidRow
import Derived.Laws.MakeOwn
namespace Go.Proofs.Ytmhpbmobfdgkeaa
open Go.RowKit
/-- Statistics as an argument holds them. -/
structure StatB (p : PStat) : Prop where
  col : ∀ c ∈ p.cols, ColB c.c
  len : p.cols.length ≤ 140737488355328
set_option maxRecDepth 100000 in
set_option maxHeartbeats 4000000 in
theorem sright_any (p : PStat) (hb : StatB p) (w : World) (hR : PStatR w p) :
    Calls Try.prog 12 #[.agg (statA p)] w (Says (Sp.rightS p.plain) w) := by
  have HB := Lib.hid hb
  have HR := Lib.hid hR.cols
  have HC := Lib.hid hR.col
  obtain ⟨tb, rw, pg, cols, A, c⟩ := p
  simp only at HR HC
  have hcl := HB.out.len
  have HBC := Lib.hid HB.out.col
  simp only at hcl HBC
  have HY := Lib.hid (fun (h : Sp.rightS (PStat.plain ⟨tb, rw, pg, cols, A, c⟩)) w' hb (e : Ending) he => says_yes (w := w) (w' := w') (e := e) h he hb)
  have HN := Lib.hid (fun (h : ¬ Sp.rightS (PStat.plain ⟨tb, rw, pg, cols, A, c⟩)) w' hb (e : Ending) he => says_no (w := w) (w' := w') (e := e) h he hb)
  have HDEF := Lib.hid (show Sp.rightS (PStat.plain ⟨tb, rw, pg, cols, A, c⟩) ↔ (0 ≤ rw ∧ rw ≤ 1000000000000 ∧ 0 ≤ pg ∧ pg ≤ 1000000000000) ∧ ∀ q ∈ cols, Sp.colOk rw q.c from by
    unfold Sp.rightS PStat.plain
    simp only [List.mem_map, forall_exists_index, and_imp, forall_apply_eq_imp_iff₂])
  generalize Sp.rightS (PStat.plain ⟨tb, rw, pg, cols, A, c⟩) = P at HY HN HDEF ⊢
  generalize Says P w = Q at HY HN ⊢
  clear hb hR HB
  dsimp only [statA]
  by_cases r0 : rw < 0
  · have HF := Lib.hid (HN.out (fun h => by have := (HDEF.out.1 h).1.1; omega))
    clear HDEF HN HY
    go_enter Try.func12, Try.ntmps12
    go_upto_region 1 with fail
    have H0 := Lib.hid (show BxL w.heap.size w [(#[.string tb, .int .i64 rw, .int .i64 pg, .slice A cols.length c], 28)] (w.alloc (.cells #[.string tb, .int .i64 rw, .int .i64 pg, .slice A cols.length c] 28)) from ((BxL.nil (Below.refl w.heap.size w)).new (by simp) #[.string tb, .int .i64 rw, .int .i64 pg, .slice A cols.length c] 28))
    obtain ⟨W0, hW0⟩ : ∃ W, W = (w.alloc (.cells #[.string tb, .int .i64 rw, .int .i64 pg, .slice A cols.length c] 28)) := ⟨_, rfl⟩
    rw [← hW0] at H0 ⊢
    clear hW0
    have hc0 := blkCell H0.out.get0
    go_wp2_with fail
    exact HF.out _ H0.out.below _ (by simp [*])
  by_cases r1 : 1000000000000 < rw
  · have HF := Lib.hid (HN.out (fun h => by have := (HDEF.out.1 h).1.2.1; omega))
    clear HDEF HN HY
    go_enter Try.func12, Try.ntmps12
    go_upto_region 1 with fail
    have H0 := Lib.hid (show BxL w.heap.size w [(#[.string tb, .int .i64 rw, .int .i64 pg, .slice A cols.length c], 28)] (w.alloc (.cells #[.string tb, .int .i64 rw, .int .i64 pg, .slice A cols.length c] 28)) from ((BxL.nil (Below.refl w.heap.size w)).new (by simp) #[.string tb, .int .i64 rw, .int .i64 pg, .slice A cols.length c] 28))
    obtain ⟨W0, hW0⟩ : ∃ W, W = (w.alloc (.cells #[.string tb, .int .i64 rw, .int .i64 pg, .slice A cols.length c] 28)) := ⟨_, rfl⟩
    rw [← hW0] at H0 ⊢
    clear hW0
    have hc0 := blkCell H0.out.get0
    go_wp2_with fail
    exact HF.out _ H0.out.below _ (by simp [*])
  by_cases r2 : pg < 0
  · have HF := Lib.hid (HN.out (fun h => by have := (HDEF.out.1 h).1.2.2.1; omega))
    clear HDEF HN HY
    go_enter Try.func12, Try.ntmps12
    go_upto_region 1 with fail
    have H0 := Lib.hid (show BxL w.heap.size w [(#[.string tb, .int .i64 rw, .int .i64 pg, .slice A cols.length c], 28)] (w.alloc (.cells #[.string tb, .int .i64 rw, .int .i64 pg, .slice A cols.length c] 28)) from ((BxL.nil (Below.refl w.heap.size w)).new (by simp) #[.string tb, .int .i64 rw, .int .i64 pg, .slice A cols.length c] 28))
    obtain ⟨W0, hW0⟩ : ∃ W, W = (w.alloc (.cells #[.string tb, .int .i64 rw, .int .i64 pg, .slice A cols.length c] 28)) := ⟨_, rfl⟩
    rw [← hW0] at H0 ⊢
    clear hW0
    have hc0 := blkCell H0.out.get0
    go_wp2_with fail
    exact HF.out _ H0.out.below _ (by simp [*])
  by_cases r3 : 1000000000000 < pg
  · have HF := Lib.hid (HN.out (fun h => by have := (HDEF.out.1 h).1.2.2.2; omega))
    clear HDEF HN HY
    go_enter Try.func12, Try.ntmps12
    go_upto_region 1 with fail
    have H0 := Lib.hid (show BxL w.heap.size w [(#[.string tb, .int .i64 rw, .int .i64 pg, .slice A cols.length c], 28)] (w.alloc (.cells #[.string tb, .int .i64 rw, .int .i64 pg, .slice A cols.length c] 28)) from ((BxL.nil (Below.refl w.heap.size w)).new (by simp) #[.string tb, .int .i64 rw, .int .i64 pg, .slice A cols.length c] 28))
    obtain ⟨W0, hW0⟩ : ∃ W, W = (w.alloc (.cells #[.string tb, .int .i64 rw, .int .i64 pg, .slice A cols.length c] 28)) := ⟨_, rfl⟩
    rw [← hW0] at H0 ⊢
    clear hW0
    have hc0 := blkCell H0.out.get0
    go_wp2_with fail
    exact HF.out _ H0.out.below _ (by simp [*])
  go_enter Try.func12, Try.ntmps12
  go_upto_region 1 with fail
  have H0 := Lib.hid (show BxL w.heap.size w [(#[.string tb, .int .i64 rw, .int .i64 pg, .slice A cols.length c], 28)] (w.alloc (.cells #[.string tb, .int .i64 rw, .int .i64 pg, .slice A cols.length c] 28)) from ((BxL.nil (Below.refl w.heap.size w)).new (by simp) #[.string tb, .int .i64 rw, .int .i64 pg, .slice A cols.length c] 28))
  obtain ⟨W0, hW0⟩ : ∃ W, W = (w.alloc (.cells #[.string tb, .int .i64 rw, .int .i64 pg, .slice A cols.length c] 28)) := ⟨_, rfl⟩
  rw [← hW0] at H0 ⊢
  clear hW0
  have hc0 := blkCell H0.out.get0
  go_wp2_with fail
  clear hc0
  go_loopw [26] (fun i wr => ∃ k : Nat, k ≤ cols.length ∧ i = .int .i64 k ∧ (∀ j (hj : j < cols.length), j < k → Sp.colOk rw cols[j].c) ∧ BxL w.heap.size w [(#[.string tb, .int .i64 rw, .int .i64 pg, .slice A cols.length c], 28)] wr) (fun i _ => cols.length - (intOf i).toNat)
  case atStart => exact ⟨0, Nat.zero_le _, rfl, fun _ _ h => absurd h (by omega), H0.out⟩
  case round =>
    obtain ⟨k, hk, rfl, hall, hbx⟩ := hrel
    have HA := Lib.hid hall
    have HX := Lib.hid hbx
    clear hall hbx H0
    by_cases hlt : k < cols.length
    · obtain ⟨b, off, rfl, hca, hbl, hcell⟩ := read_at colC_len (HR.out.below HX.out.below) hlt
      have hvb := HBC.out cols[k] (List.getElem_mem hlt)
      have hvr := (HC.out cols[k] (List.getElem_mem hlt)).below HX.out.below
      have HNC := Lib.hid (show ¬ Sp.colOk rw cols[k].c → ¬ P from fun h hP => h ((HDEF.out.1 hP).2 _ (List.getElem_mem hlt)))
      have HYC := Lib.hid (show Sp.colOk rw cols[k].c → ∀ j (hj : j < cols.length), j < k + 1 → Sp.colOk rw cols[j].c from fun h j hj hjk => by
        rcases Nat.lt_or_eq_of_le (Nat.le_of_lt_succ hjk) with h1 | h1
        · exact HA.out j hj h1
        · subst h1; exact h)
      generalize cols[k] = x at hcell hvb hvr HNC HYC
      obtain ⟨⟨nu, di, es, cs⟩, E, ec, C, cc⟩ := x
      simp only at HNC HYC
      have HCELL := Lib.hid (show wr.rangeAt b (off + k * 4) [.int .i64 nu, .int .i64 di, .slice E es.length ec, .slice C cs.length cc] from hcell)
      have HVR := Lib.hid hvr
      clear hcell HA hvr
      have HDC := Lib.hid (show Sp.colOk rw ⟨nu, di, es, cs⟩ ↔ (0 ≤ nu ∧ nu ≤ rw ∧ 0 ≤ di ∧ di ≤ rw - nu) ∧ Sp.commonOk ⟨nu, di, es, cs⟩ (rw - nu) ∧ Sp.endsOk ⟨nu, di, es, cs⟩ from Iff.rfl)
      have hk0 : (0 : Int) ≤ (k : Int) := by omega
      have hki : (k : Int) < (cols.length : Int) := by omega
      have hwk : IntKind.i64.wrap ((k : Int) + 1) = (k : Int) + 1 := IntWalk.i64_in _ (by omega)
      have HCB := Lib.hid (HX.out.step (allocB wr (.cells #[.int .i64 nu, .int .i64 di, .slice E es.length ec, .slice C cs.length cc] 39)))
      have HOB := Lib.hid (heap_alloc_new wr (.cells #[.int .i64 nu, .int .i64 di, .slice E es.length ec, .slice C cs.length cc] 39))
      by_cases n0 : nu < 0
      · have HF := Lib.hid (HN.out (HNC.out (fun h => by have := (HDC.out.1 h).1.1; omega)))
        clear HNC HYC HDC HN HY HDEF
        have hx0 := blkCell HCB.out.get0
        have hx1 := blkCell HOB.out
        go_wp2_with (first | (with_reducible refine wpList_load_mid rfl 39 (.tmp 28) rfl b (off + k * 4) rfl [.int .i64 nu, .int .i64 di, .slice E es.length ec, .slice C cs.length cc] _ HCELL.out Try.underlying39 (by kernel_rfl) (by kernel_rfl) ?_) | (with_reducible refine wpList_store_new rfl 39 (.tmp 4) (.tmp 29) rfl #[.int .i64 nu, .int .i64 di, .slice E es.length ec, .slice C cs.length cc] _ _ rfl (by kernel_rfl) (by kernel_rfl) (by kernel_rfl) (by kernel_rfl) ?_))
        exact HF.out _ HCB.out.below _ (by simp)
      by_cases n1 : rw < nu
      · have HF := Lib.hid (HN.out (HNC.out (fun h => by have := (HDC.out.1 h).1.2.1; omega)))
        clear HNC HYC HDC HN HY HDEF
        have hx0 := blkCell HCB.out.get0
        have hx1 := blkCell HOB.out
        go_wp2_with (first | (with_reducible refine wpList_load_mid rfl 39 (.tmp 28) rfl b (off + k * 4) rfl [.int .i64 nu, .int .i64 di, .slice E es.length ec, .slice C cs.length cc] _ HCELL.out Try.underlying39 (by kernel_rfl) (by kernel_rfl) ?_) | (with_reducible refine wpList_store_new rfl 39 (.tmp 4) (.tmp 29) rfl #[.int .i64 nu, .int .i64 di, .slice E es.length ec, .slice C cs.length cc] _ _ rfl (by kernel_rfl) (by kernel_rfl) (by kernel_rfl) (by kernel_rfl) ?_))
        exact HF.out _ HCB.out.below _ (by simp)
      by_cases n2 : di < 0
      · have HF := Lib.hid (HN.out (HNC.out (fun h => by have := (HDC.out.1 h).1.2.2.1; omega)))
        clear HNC HYC HDC HN HY HDEF
        have hx0 := blkCell HCB.out.get0
        have hx1 := blkCell HOB.out
        go_wp2_with (first | (with_reducible refine wpList_load_mid rfl 39 (.tmp 28) rfl b (off + k * 4) rfl [.int .i64 nu, .int .i64 di, .slice E es.length ec, .slice C cs.length cc] _ HCELL.out Try.underlying39 (by kernel_rfl) (by kernel_rfl) ?_) | (with_reducible refine wpList_store_new rfl 39 (.tmp 4) (.tmp 29) rfl #[.int .i64 nu, .int .i64 di, .slice E es.length ec, .slice C cs.length cc] _ _ rfl (by kernel_rfl) (by kernel_rfl) (by kernel_rfl) (by kernel_rfl) ?_))
        exact HF.out _ HCB.out.below _ (by simp)
      have hwn : IntKind.i64.wrap (rw - nu) = rw - nu := IntWalk.i64_in _ (by omega)
      by_cases n3 : rw - nu < di
      · have HF := Lib.hid (HN.out (HNC.out (fun h => by have := (HDC.out.1 h).1.2.2.2; omega)))
        clear HNC HYC HDC HN HY HDEF
        have hx0 := blkCell HCB.out.get0
        have hx1 := blkCell HOB.out
        go_wp2_with (first | (with_reducible refine wpList_load_mid rfl 39 (.tmp 28) rfl b (off + k * 4) rfl [.int .i64 nu, .int .i64 di, .slice E es.length ec, .slice C cs.length cc] _ HCELL.out Try.underlying39 (by kernel_rfl) (by kernel_rfl) ?_) | (with_reducible refine wpList_store_new rfl 39 (.tmp 4) (.tmp 29) rfl #[.int .i64 nu, .int .i64 di, .slice E es.length ec, .slice C cs.length cc] _ _ rfl (by kernel_rfl) (by kernel_rfl) (by kernel_rfl) (by kernel_rfl) ?_))
        exact HF.out _ HCB.out.below _ (by simp)
      have HCO := Lib.hid (fun W (hW : Below wr.heap.size wr W) => common_any ⟨⟨nu, di, es, cs⟩, E, ec, C, cc⟩ hvb (rw - nu) (by omega) (by omega) (by show 0 ≤ di; omega) (by show di ≤ rw - nu; omega) W (HVR.out.below hW))
      have HEN := Lib.hid (fun W (hW : Below wr.heap.size wr W) => ends_any ⟨⟨nu, di, es, cs⟩, E, ec, C, cc⟩ hvb W (HVR.out.below hW))
      have HBW := Lib.hid (allocB wr (.cells #[.int .i64 nu, .int .i64 di, .slice E es.length ec, .slice C cs.length cc] 39))
      dsimp only [colA] at HCO HEN
      generalize Sp.commonOk ⟨nu, di, es, cs⟩ (rw - nu) = X1 at HCO HDC
      generalize Sp.endsOk ⟨nu, di, es, cs⟩ = X2 at HEN HDC
      clear hvb
      by_cases hx : X1
      rotate_left
      · have HP := Lib.hid hx
        have HF := Lib.hid (HN.out (HNC.out (fun h => hx (HDC.out.1 h).2.1)))
        clear HNC HYC HDC HN HY HDEF hx
        have hx0 := blkCell HCB.out.get0
        have hx1 := blkCell HOB.out
        go_wp2_with (first | (with_reducible refine wpList_load_mid rfl 39 (.tmp 28) rfl b (off + k * 4) rfl [.int .i64 nu, .int .i64 di, .slice E es.length ec, .slice C cs.length cc] _ HCELL.out Try.underlying39 (by kernel_rfl) (by kernel_rfl) ?_) | (with_reducible refine wpList_store_new rfl 39 (.tmp 4) (.tmp 29) rfl #[.int .i64 nu, .int .i64 di, .slice E es.length ec, .slice C cs.length cc] _ _ rfl (by kernel_rfl) (by kernel_rfl) (by kernel_rfl) (by kernel_rfl) ?_) | (with_reducible refine listLoad (by kernel_rfl) 39 (.tmp 4) rfl wr.heap.size rfl #[.int .i64 nu, .int .i64 di, .slice E es.length ec, .slice C cs.length cc] _ HOB.out _ Try.underlying39 (by kernel_rfl) (by kernel_rfl) ?_) | (go_at_call 25; (with_reducible refine (HCO.out _ HBW.out).mono ?_); rintro e w3 ⟨q, rfl, hq, hb3⟩; obtain rfl := q_false hq HP.out; clear hq; have HOB3 := Lib.hid (blkOld HOB.out hb3); have HB3 := Lib.hid (joinB HBW.out hb3); have HX3 := Lib.hid (HCB.out.step hb3); clear hb3))
        exact HF.out _ HX3.out.below _ (by simp)
      have HP := Lib.hid hx
      by_cases hy : X2
      rotate_left
      · have HS := Lib.hid hy
        have HF := Lib.hid (HN.out (HNC.out (fun h => hy (HDC.out.1 h).2.2)))
        clear HNC HYC HDC HN HY HDEF hx hy
        have hx0 := blkCell HCB.out.get0
        have hx1 := blkCell HOB.out
        go_wp2_with (first | (with_reducible refine wpList_load_mid rfl 39 (.tmp 28) rfl b (off + k * 4) rfl [.int .i64 nu, .int .i64 di, .slice E es.length ec, .slice C cs.length cc] _ HCELL.out Try.underlying39 (by kernel_rfl) (by kernel_rfl) ?_) | (with_reducible refine wpList_store_new rfl 39 (.tmp 4) (.tmp 29) rfl #[.int .i64 nu, .int .i64 di, .slice E es.length ec, .slice C cs.length cc] _ _ rfl (by kernel_rfl) (by kernel_rfl) (by kernel_rfl) (by kernel_rfl) ?_) | (with_reducible refine listLoad (by kernel_rfl) 39 (.tmp 4) rfl wr.heap.size rfl #[.int .i64 nu, .int .i64 di, .slice E es.length ec, .slice C cs.length cc] _ HOB.out _ Try.underlying39 (by kernel_rfl) (by kernel_rfl) ?_) | (go_at_call 25; (with_reducible refine (HCO.out _ HBW.out).mono ?_); rintro e w3 ⟨q, rfl, hq, hb3⟩; obtain rfl := q_true hq HP.out; clear hq; have HOB3 := Lib.hid (blkOld HOB.out hb3); have HB3 := Lib.hid (joinB HBW.out hb3); have HX3 := Lib.hid (HCB.out.step hb3); clear hb3) | (with_reducible refine listLoad (by kernel_rfl) 39 (.tmp 4) rfl wr.heap.size rfl #[.int .i64 nu, .int .i64 di, .slice E es.length ec, .slice C cs.length cc] _ HOB3.out _ Try.underlying39 (by kernel_rfl) (by kernel_rfl) ?_) | (go_at_call 26; (with_reducible refine (HEN.out _ HB3.out).mono ?_); rintro e w4 ⟨q, rfl, hq, hb4⟩; obtain rfl := q_false hq HS.out; clear hq; have HX4 := Lib.hid (HX3.out.step hb4); clear hb4))
        exact HF.out _ HX4.out.below _ (by simp)
      have HS := Lib.hid hy
      have HG := Lib.hid (HYC.out (HDC.out.2 ⟨⟨by omega, by omega, by omega, by omega⟩, hx, hy⟩))
      clear HNC HYC HDC HN HY HDEF hx hy
      have hx0 := blkCell HCB.out.get0
      have hx1 := blkCell HOB.out
      go_wp2_with (first | (with_reducible refine wpList_load_mid rfl 39 (.tmp 28) rfl b (off + k * 4) rfl [.int .i64 nu, .int .i64 di, .slice E es.length ec, .slice C cs.length cc] _ HCELL.out Try.underlying39 (by kernel_rfl) (by kernel_rfl) ?_) | (with_reducible refine wpList_store_new rfl 39 (.tmp 4) (.tmp 29) rfl #[.int .i64 nu, .int .i64 di, .slice E es.length ec, .slice C cs.length cc] _ _ rfl (by kernel_rfl) (by kernel_rfl) (by kernel_rfl) (by kernel_rfl) ?_) | (with_reducible refine listLoad (by kernel_rfl) 39 (.tmp 4) rfl wr.heap.size rfl #[.int .i64 nu, .int .i64 di, .slice E es.length ec, .slice C cs.length cc] _ HOB.out _ Try.underlying39 (by kernel_rfl) (by kernel_rfl) ?_) | (go_at_call 25; (with_reducible refine (HCO.out _ HBW.out).mono ?_); rintro e w3 ⟨q, rfl, hq, hb3⟩; obtain rfl := q_true hq HP.out; clear hq; have HOB3 := Lib.hid (blkOld HOB.out hb3); have HB3 := Lib.hid (joinB HBW.out hb3); have HX3 := Lib.hid (HCB.out.step hb3); clear hb3) | (with_reducible refine listLoad (by kernel_rfl) 39 (.tmp 4) rfl wr.heap.size rfl #[.int .i64 nu, .int .i64 di, .slice E es.length ec, .slice C cs.length cc] _ HOB3.out _ Try.underlying39 (by kernel_rfl) (by kernel_rfl) ?_) | (go_at_call 26; (with_reducible refine (HEN.out _ HB3.out).mono ?_); rintro e w4 ⟨q, rfl, hq, hb4⟩; obtain rfl := q_true hq HS.out; clear hq; have HX4 := Lib.hid (HX3.out.step hb4); clear hb4))
      go_roundw
      case rel => exact ⟨k + 1, by omega, by go_num, HG.out, HX4.out⟩
      case measure => simp [intOf]; omega
    · have HF := Lib.hid (HY.out (HDEF.out.2 ⟨⟨by omega, by omega, by omega, by omega⟩, fun q hq => by
        obtain ⟨j, hj, rfl⟩ := List.getElem_of_mem hq
        exact HA.out j hj (by omega)⟩) _ HX.out.below)
      clear HN HY HDEF
      go_wp2_with fail
      exact HF.out _ (by simp)
end Go.Proofs.Ytmhpbmobfdgkeaa
/- The walk over the reference of statistics: one. -/
namespace Sp
end Sp
namespace Go.Proofs.Ytmhpbmobfdgkeaa
open Go.RowKit
end Go.Proofs.Ytmhpbmobfdgkeaa
/- The walk over the reference of statistics: Right, Same. -/
namespace Go.Proofs.Ytmhpbmobfdgkeaa
open Go.RowKit
theorem eql_val (a b : Int) (s : ByteArray) (w : World) : (binOp .eql 36 (.agg #[.int .i64 a, .int .i64 b, .string s]) (.agg #[.int .i64 a, .int .i64 b, .string s])).run Try.prog w = .ok (.bool true) w := by
  have hS : Try.prog.underlying 36 = some (.struct (Try.prog.fieldsOf 36)) := by kernel_rfl
  have hp : Try.prog.stoodInHeld 36 = false := by kernel_rfl
  rw [run_eql_struct, show (10000 : Nat) = 9999 + 1 from rfl, run_equalIn_agg w 9999 36 _ _ hS hp]
  simp only [Program.fieldsOf, Try.underlying36]
  go_simp
theorem neq_val (a b : Int) (s : ByteArray) (w : World) : (binOp .neq 36 (.agg #[.int .i64 a, .int .i64 b, .string s]) (.agg #[.int .i64 a, .int .i64 b, .string s])).run Try.prog w = .ok (.bool false) w := by
  have hS : Try.prog.underlying 36 = some (.struct (Try.prog.fieldsOf 36)) := by kernel_rfl
  have hp : Try.prog.stoodInHeld 36 = false := by kernel_rfl
  rw [run_neq_struct, show (10000 : Nat) = 9999 + 1 from rfl, run_equalIn_agg w 9999 36 _ _ hS hp]
  simp only [Program.fieldsOf, Try.underlying36]
  go_simp
theorem neq_oft (a b : Int) (s : ByteArray) (d : Int) (w : World) : (binOp .neq 48 (.agg #[.int .i64 a, .int .i64 b, .string s, .int .i64 d]) (.agg #[.int .i64 a, .int .i64 b, .string s, .int .i64 d])).run Try.prog w = .ok (.bool false) w := by
  have hS : Try.prog.underlying 48 = some (.struct (Try.prog.fieldsOf 48)) := by kernel_rfl
  have hp : Try.prog.stoodInHeld 48 = false := by kernel_rfl
  rw [run_neq_struct, show (10000 : Nat) = 9999 + 1 from rfl, run_equalIn_agg w 9999 48 _ _ hS hp]
  simp only [Program.fieldsOf, Try.underlying48]
  go_simp
set_option maxRecDepth 100000 in
set_option maxHeartbeats 4000000 in
theorem samecol_any (c : Sp.ColS) (hb : ColB c) (E : Option Addr) (ec : Nat) (C : Option Addr) (cc : Nat) (E2 : Option Addr) (ec2 : Nat) (C2 : Option Addr) (cc2 : Nat) (w : World) (h1 : PColR w ⟨c, E, ec, C, cc⟩) (h2 : PColR w ⟨c, E2, ec2, C2, cc2⟩) :
    Calls Try.prog 18 #[.agg (colA ⟨c, E, ec, C, cc⟩), .agg (colA ⟨c, E2, ec2, C2, cc2⟩)] w (fun e w' => e = .returned (.bool true) ∧ Below w.heap.size w w') := by
  have HE := Lib.hid h1.ends
  have HC := Lib.hid h1.com
  have HE2 := Lib.hid h2.ends
  have HC2 := Lib.hid h2.com
  have hcl := hb.cl
  have hel := hb.el
  clear h1 h2 hb
  obtain ⟨nu, di, es, cs⟩ := c
  simp only at HE HC HE2 HC2 hcl hel
  dsimp only [colA]
  go_enter Try.func18, Try.ntmps18
  go_upto_region 1 with fail
  have H0 := Lib.hid (show BxL w.heap.size w [(#[.int .i64 nu, .int .i64 di, .slice E es.length ec, .slice C cs.length cc], 39), (#[.int .i64 nu, .int .i64 di, .slice E2 es.length ec2, .slice C2 cs.length cc2], 39)] ((w.alloc (.cells #[.int .i64 nu, .int .i64 di, .slice E es.length ec, .slice C cs.length cc] 39)).alloc (.cells #[.int .i64 nu, .int .i64 di, .slice E2 es.length ec2, .slice C2 cs.length cc2] 39)) from (((BxL.nil (Below.refl w.heap.size w)).new (by simp) #[.int .i64 nu, .int .i64 di, .slice E es.length ec, .slice C cs.length cc] 39).new (by simp) #[.int .i64 nu, .int .i64 di, .slice E2 es.length ec2, .slice C2 cs.length cc2] 39))
  obtain ⟨W0, hW0⟩ : ∃ W, W = ((w.alloc (.cells #[.int .i64 nu, .int .i64 di, .slice E es.length ec, .slice C cs.length cc] 39)).alloc (.cells #[.int .i64 nu, .int .i64 di, .slice E2 es.length ec2, .slice C2 cs.length cc2] 39)) := ⟨_, rfl⟩
  rw [← hW0] at H0 ⊢
  clear hW0
  have hc0 := blkCell H0.out.get0
  have hc1 := blkCell H0.out.get1
  go_wp2_with fail
  clear hc0 hc1
  go_loopw [5] (fun i wr => ∃ k : Nat, k ≤ es.length ∧ i = .int .i64 k ∧ BxL w.heap.size w [(#[.int .i64 nu, .int .i64 di, .slice E es.length ec, .slice C cs.length cc], 39), (#[.int .i64 nu, .int .i64 di, .slice E2 es.length ec2, .slice C2 cs.length cc2], 39)] wr) (fun i _ => es.length - (intOf i).toNat)
  case atStart => exact ⟨0, Nat.zero_le _, rfl, H0.out⟩
  case round =>
    obtain ⟨k, hk, rfl, hbx⟩ := hrel
    have HX := Lib.hid hbx
    clear hbx H0
    have hcb := blkCell HX.out.get0
    have hcc := blkCell HX.out.get1
    by_cases hlt : k < es.length
    · obtain ⟨b, off, rfl, hca, hbl, hcell⟩ := read_at valC_len (HE.out.below HX.out.below) hlt
      obtain ⟨b2, off2, rfl, hca2, hbl2, hcell2⟩ := read_at valC_len (HE2.out.below HX.out.below) hlt
      generalize es[k] = x at hcell hcell2
      obtain ⟨ak, an, sa⟩ := x
      have HC1 := Lib.hid (show ∀ u, Below wr.heap.size wr u → u.rangeAt b (off + k * 3) [.int .i64 ak, .int .i64 an, .string sa] from fun u hu i v hi => by rw [hu.cell (p := ⟨b, off + k * 3 + i, none⟩) hbl]; exact hcell i v hi)
      have HC2 := Lib.hid (show ∀ u, Below wr.heap.size wr u → u.rangeAt b2 (off2 + k * 3) [.int .i64 ak, .int .i64 an, .string sa] from fun u hu i v hi => by rw [hu.cell (p := ⟨b2, off2 + k * 3 + i, none⟩) hbl2]; exact hcell2 i v hi)
      have hne := neq_val ak an sa
      clear hcell hcell2
      have hk0 : (0 : Int) ≤ (k : Int) := by omega
      have hki : (k : Int) < (es.length : Int) := by omega
      have hwk : IntKind.i64.wrap ((k : Int) + 1) = (k : Int) + 1 := IntWalk.i64_in _ (by omega)
      have HCB := Lib.hid HX.out.get0
      have HCC := Lib.hid HX.out.get1
      go_upto_region 6 with fail
      clear hcb hcc
      have hSn : Below wr.heap.size wr wr.drew := (Below.refl _ wr).drew
      refine wp_region_held_drew (S := (fun u => Below wr.heap.size wr u)) (by kernel_rfl) ?_ (fun hHeld => ?_)
      · exact hSn
      generalize wr.drew = w9 at hSn ⊢
      refine tkW 0 (some 44) (v := ?_) rfl ?_ ?_
      rotate_left
      · intro u hSu; have hSa := blkCell (blkOld HCB.out hSu); have hSb := blkCell (blkOld HCC.out hSu); clear hSu; go_simp; (try with_reducible rfl)
      try simp only [Act.put, List.setIfInBounds_toArray, List.set_cons_zero, List.set_cons_succ]
      refine tkW 1 (some 45) (v := ?_) rfl ?_ ?_
      rotate_left
      · intro u hSu; have hSa := blkCell (blkOld HCB.out hSu); have hSb := blkCell (blkOld HCC.out hSu); clear hSu; go_simp; (try with_reducible rfl)
      try simp only [Act.put, List.setIfInBounds_toArray, List.set_cons_zero, List.set_cons_succ]
      refine tkW 2 (some 46) (v := ?_) rfl ?_ ?_
      rotate_left
      · intro u hSu; have hSa := blkCell (blkOld HCB.out hSu); have hSb := blkCell (blkOld HCC.out hSu); clear hSu; go_simp; (try with_reducible rfl)
      try simp only [Act.put, List.setIfInBounds_toArray, List.set_cons_zero, List.set_cons_succ]
      refine tkW 3 (some 47) (v := ?_) rfl ?_ ?_
      rotate_left
      · intro u hSu; have hSa := blkCell (blkOld HCB.out hSu); have hSb := blkCell (blkOld HCC.out hSu); clear hSu; go_simp; (try with_reducible rfl)
      try simp only [Act.put, List.setIfInBounds_toArray, List.set_cons_zero, List.set_cons_succ]
      refine tkV 4 (some 48) (v := .agg #[.int .i64 ak, .int .i64 an, .string sa]) rfl (yieldsIf_load_mid (by rfl) 36 (.tmp 47) rfl b (off + k * 3) (by rfl) [.int .i64 ak, .int .i64 an, .string sa] _ HC1.out Try.underlying36 (by kernel_rfl) (by kernel_rfl)) ?_
      try simp only [Act.put, List.setIfInBounds_toArray, List.set_cons_zero, List.set_cons_succ]
      refine tkW 5 (some 49) (v := ?_) rfl ?_ ?_
      rotate_left
      · intro u hSu; have hSa := blkCell (blkOld HCB.out hSu); have hSb := blkCell (blkOld HCC.out hSu); clear hSu; go_simp; (try with_reducible rfl)
      try simp only [Act.put, List.setIfInBounds_toArray, List.set_cons_zero, List.set_cons_succ]
      refine tkW 6 (some 50) (v := ?_) rfl ?_ ?_
      rotate_left
      · intro u hSu; have hSa := blkCell (blkOld HCB.out hSu); have hSb := blkCell (blkOld HCC.out hSu); clear hSu; go_simp; (try with_reducible rfl)
      try simp only [Act.put, List.setIfInBounds_toArray, List.set_cons_zero, List.set_cons_succ]
      refine tkW 7 (some 51) (v := ?_) rfl ?_ ?_
      rotate_left
      · intro u hSu; have hSa := blkCell (blkOld HCB.out hSu); have hSb := blkCell (blkOld HCC.out hSu); clear hSu; go_simp; (try with_reducible rfl)
      try simp only [Act.put, List.setIfInBounds_toArray, List.set_cons_zero, List.set_cons_succ]
      refine tkW 8 (some 52) (v := ?_) rfl ?_ ?_
      rotate_left
      · intro u hSu; have hSa := blkCell (blkOld HCB.out hSu); have hSb := blkCell (blkOld HCC.out hSu); clear hSu; go_simp; (try with_reducible rfl)
      try simp only [Act.put, List.setIfInBounds_toArray, List.set_cons_zero, List.set_cons_succ]
      refine tkV 9 (some 53) (v := .agg #[.int .i64 ak, .int .i64 an, .string sa]) rfl (yieldsIf_load_mid (by rfl) 36 (.tmp 52) rfl b2 (off2 + k * 3) (by rfl) [.int .i64 ak, .int .i64 an, .string sa] _ HC2.out Try.underlying36 (by kernel_rfl) (by kernel_rfl)) ?_
      try simp only [Act.put, List.setIfInBounds_toArray, List.set_cons_zero, List.set_cons_succ]
      refine tkW 10 (some 54) (v := ?_) rfl ?_ ?_
      rotate_left
      · intro u hSu; have hSa := blkCell (blkOld HCB.out hSu); have hSb := blkCell (blkOld HCC.out hSu); clear hSu; go_simp; (try with_reducible rfl)
      try simp only [Act.put, List.setIfInBounds_toArray, List.set_cons_zero, List.set_cons_succ]
      refine wpAnyH_done (by kernel_rfl) ?_ _
      clear hHeld HC1 HC2 HCB HCC hne
      go_wp2_with fail
      go_roundw
      case rel => exact ⟨k + 1, by omega, by go_num, HX.out.step hSn⟩
      case measure => simp [intOf]; omega
    · obtain rfl : k = es.length := by omega
      have H0 := HX
      clear HX
      go_wp2_with fail
      clear hcb hcc
      go_loopw [6] (fun i wr => ∃ k : Nat, k ≤ cs.length ∧ i = .int .i64 k ∧ BxL w.heap.size w [(#[.int .i64 nu, .int .i64 di, .slice E es.length ec, .slice C cs.length cc], 39), (#[.int .i64 nu, .int .i64 di, .slice E2 es.length ec2, .slice C2 cs.length cc2], 39)] wr) (fun i _ => cs.length - (intOf i).toNat)
      case atStart => exact ⟨0, Nat.zero_le _, rfl, H0.out⟩
      case round =>
        obtain ⟨k, hk, rfl, hbx⟩ := hrel
        have HX := Lib.hid hbx
        clear hbx H0
        have hcb := blkCell HX.out.get0
        have hcc := blkCell HX.out.get1
        by_cases hlt : k < cs.length
        · obtain ⟨b, off, rfl, hca, hbl, hcell⟩ := read_at oftC_len (HC.out.below HX.out.below) hlt
          obtain ⟨b2, off2, rfl, hca2, hbl2, hcell2⟩ := read_at oftC_len (HC2.out.below HX.out.below) hlt
          generalize cs[k] = x at hcell hcell2
          obtain ⟨⟨ak, an, sa⟩, ac⟩ := x
          have HC1 := Lib.hid (show ∀ u, Below wr.heap.size wr u → u.rangeAt b (off + k * 4) [.int .i64 ak, .int .i64 an, .string sa, .int .i64 ac] from fun u hu i v hi => by rw [hu.cell (p := ⟨b, off + k * 4 + i, none⟩) hbl]; exact hcell i v hi)
          have HC2 := Lib.hid (show ∀ u, Below wr.heap.size wr u → u.rangeAt b2 (off2 + k * 4) [.int .i64 ak, .int .i64 an, .string sa, .int .i64 ac] from fun u hu i v hi => by rw [hu.cell (p := ⟨b2, off2 + k * 4 + i, none⟩) hbl2]; exact hcell2 i v hi)
          have hne := neq_oft ak an sa ac
          clear hcell hcell2
          have hk0 : (0 : Int) ≤ (k : Int) := by omega
          have hki : (k : Int) < (cs.length : Int) := by omega
          have hwk : IntKind.i64.wrap ((k : Int) + 1) = (k : Int) + 1 := IntWalk.i64_in _ (by omega)
          have HCB := Lib.hid HX.out.get0
          have HCC := Lib.hid HX.out.get1
          go_upto_region 11 with fail
          clear hcb hcc
          have hSn : Below wr.heap.size wr wr.drew := (Below.refl _ wr).drew
          refine wp_region_held_drew (S := (fun u => Below wr.heap.size wr u)) (by kernel_rfl) ?_ (fun hHeld => ?_)
          · exact hSn
          generalize wr.drew = w9 at hSn ⊢
          refine tkW 0 (some 62) (v := ?_) rfl ?_ ?_
          rotate_left
          · intro u hSu; have hSa := blkCell (blkOld HCB.out hSu); have hSb := blkCell (blkOld HCC.out hSu); clear hSu; go_simp; (try with_reducible rfl)
          try simp only [Act.put, List.setIfInBounds_toArray, List.set_cons_zero, List.set_cons_succ]
          refine tkW 1 (some 63) (v := ?_) rfl ?_ ?_
          rotate_left
          · intro u hSu; have hSa := blkCell (blkOld HCB.out hSu); have hSb := blkCell (blkOld HCC.out hSu); clear hSu; go_simp; (try with_reducible rfl)
          try simp only [Act.put, List.setIfInBounds_toArray, List.set_cons_zero, List.set_cons_succ]
          refine tkW 2 (some 64) (v := ?_) rfl ?_ ?_
          rotate_left
          · intro u hSu; have hSa := blkCell (blkOld HCB.out hSu); have hSb := blkCell (blkOld HCC.out hSu); clear hSu; go_simp; (try with_reducible rfl)
          try simp only [Act.put, List.setIfInBounds_toArray, List.set_cons_zero, List.set_cons_succ]
          refine tkW 3 (some 65) (v := ?_) rfl ?_ ?_
          rotate_left
          · intro u hSu; have hSa := blkCell (blkOld HCB.out hSu); have hSb := blkCell (blkOld HCC.out hSu); clear hSu; go_simp; (try with_reducible rfl)
          try simp only [Act.put, List.setIfInBounds_toArray, List.set_cons_zero, List.set_cons_succ]
          refine tkV 4 (some 66) (v := .agg #[.int .i64 ak, .int .i64 an, .string sa, .int .i64 ac]) rfl (yieldsIf_load_mid (by rfl) 48 (.tmp 65) rfl b (off + k * 4) (by rfl) [.int .i64 ak, .int .i64 an, .string sa, .int .i64 ac] _ HC1.out Try.underlying48 (by kernel_rfl) (by kernel_rfl)) ?_
          try simp only [Act.put, List.setIfInBounds_toArray, List.set_cons_zero, List.set_cons_succ]
          refine tkW 5 (some 67) (v := ?_) rfl ?_ ?_
          rotate_left
          · intro u hSu; have hSa := blkCell (blkOld HCB.out hSu); have hSb := blkCell (blkOld HCC.out hSu); clear hSu; go_simp; (try with_reducible rfl)
          try simp only [Act.put, List.setIfInBounds_toArray, List.set_cons_zero, List.set_cons_succ]
          refine tkW 6 (some 68) (v := ?_) rfl ?_ ?_
          rotate_left
          · intro u hSu; have hSa := blkCell (blkOld HCB.out hSu); have hSb := blkCell (blkOld HCC.out hSu); clear hSu; go_simp; (try with_reducible rfl)
          try simp only [Act.put, List.setIfInBounds_toArray, List.set_cons_zero, List.set_cons_succ]
          refine tkW 7 (some 69) (v := ?_) rfl ?_ ?_
          rotate_left
          · intro u hSu; have hSa := blkCell (blkOld HCB.out hSu); have hSb := blkCell (blkOld HCC.out hSu); clear hSu; go_simp; (try with_reducible rfl)
          try simp only [Act.put, List.setIfInBounds_toArray, List.set_cons_zero, List.set_cons_succ]
          refine tkW 8 (some 70) (v := ?_) rfl ?_ ?_
          rotate_left
          · intro u hSu; have hSa := blkCell (blkOld HCB.out hSu); have hSb := blkCell (blkOld HCC.out hSu); clear hSu; go_simp; (try with_reducible rfl)
          try simp only [Act.put, List.setIfInBounds_toArray, List.set_cons_zero, List.set_cons_succ]
          refine tkV 9 (some 71) (v := .agg #[.int .i64 ak, .int .i64 an, .string sa, .int .i64 ac]) rfl (yieldsIf_load_mid (by rfl) 48 (.tmp 70) rfl b2 (off2 + k * 4) (by rfl) [.int .i64 ak, .int .i64 an, .string sa, .int .i64 ac] _ HC2.out Try.underlying48 (by kernel_rfl) (by kernel_rfl)) ?_
          try simp only [Act.put, List.setIfInBounds_toArray, List.set_cons_zero, List.set_cons_succ]
          refine tkW 10 (some 72) (v := ?_) rfl ?_ ?_
          rotate_left
          · intro u hSu; have hSa := blkCell (blkOld HCB.out hSu); have hSb := blkCell (blkOld HCC.out hSu); clear hSu; go_simp; (try with_reducible rfl)
          try simp only [Act.put, List.setIfInBounds_toArray, List.set_cons_zero, List.set_cons_succ]
          refine wpAnyH_done (by kernel_rfl) ?_ _
          clear hHeld HC1 HC2 HCB HCC hne
          go_wp2_with fail
          go_roundw
          case rel => exact ⟨k + 1, by omega, by go_num, HX.out.step hSn⟩
          case measure => simp [intOf]; omega
        · obtain rfl : k = cs.length := by omega
          go_wp2_with fail
          go_ret
          exact ⟨by simp, HX.out.below⟩
end Go.Proofs.Ytmhpbmobfdgkeaa
/- The walk over the reference of statistics: Same; Find of the code and of the reference. -/
namespace Go.Proofs.Ytmhpbmobfdgkeaa
open Go.RowKit
set_option maxRecDepth 100000 in
set_option maxHeartbeats 4000000 in
theorem same_any (p q : PStat) (he : p.plain = q.plain) (hb : StatB p) (w : World) (h1 : PStatR w p) (h2 : PStatR w q) :
    Calls Try.prog 8 #[.agg (statA p), .agg (statA q)] w (fun e w' => e = .returned (.bool true) ∧ Below w.heap.size w w') := by
  have HP := Lib.hid h1.cols
  have HPC := Lib.hid h1.col
  have HQ := Lib.hid h2.cols
  have HQC := Lib.hid h2.col
  have HBC := Lib.hid hb.col
  have hcl := hb.len
  clear h1 h2 hb
  obtain ⟨tb, rw, pg, ps, A, c⟩ := p
  obtain ⟨tb2, rw2, pg2, qs, A2, c2⟩ := q
  unfold PStat.plain at he
  simp only at he HP HPC HQ HQC HBC hcl
  injection he with e1 e2 e3 e4
  subst e1 e2 e3
  have hlen : qs.length = ps.length := by have := congrArg List.length e4; simpa using this.symm
  have HEQ := Lib.hid (show ∀ (k : Nat) (h : k < ps.length) (h' : k < qs.length), ps[k].c = qs[k].c from fun k h h' => by
    have h5 : (ps.map (·.c))[k]? = (qs.map (·.c))[k]? := by rw [e4]
    rw [List.getElem?_map, List.getElem?_map, List.getElem?_eq_getElem h, List.getElem?_eq_getElem h'] at h5
    simpa using h5)
  clear e4
  dsimp only [statA]
  rw [hlen]
  go_enter Try.func8, Try.ntmps8
  go_upto_region 1 with fail
  have H0 := Lib.hid (show BxL w.heap.size w [(#[.string tb, .int .i64 rw, .int .i64 pg, .slice A ps.length c], 28), (#[.string tb, .int .i64 rw, .int .i64 pg, .slice A2 ps.length c2], 28)] ((w.alloc (.cells #[.string tb, .int .i64 rw, .int .i64 pg, .slice A ps.length c] 28)).alloc (.cells #[.string tb, .int .i64 rw, .int .i64 pg, .slice A2 ps.length c2] 28)) from (((BxL.nil (Below.refl w.heap.size w)).new (by simp) #[.string tb, .int .i64 rw, .int .i64 pg, .slice A ps.length c] 28).new (by simp) #[.string tb, .int .i64 rw, .int .i64 pg, .slice A2 ps.length c2] 28))
  obtain ⟨W0, hW0⟩ : ∃ W, W = ((w.alloc (.cells #[.string tb, .int .i64 rw, .int .i64 pg, .slice A ps.length c] 28)).alloc (.cells #[.string tb, .int .i64 rw, .int .i64 pg, .slice A2 ps.length c2] 28)) := ⟨_, rfl⟩
  rw [← hW0] at H0 ⊢
  clear hW0
  have hc0 := blkCell H0.out.get0
  have hc1 := blkCell H0.out.get1
  go_wp2_with fail
  clear hc0 hc1
  go_loopw [5] (fun i wr => ∃ k : Nat, k ≤ ps.length ∧ i = .int .i64 k ∧ BxL w.heap.size w [(#[.string tb, .int .i64 rw, .int .i64 pg, .slice A ps.length c], 28), (#[.string tb, .int .i64 rw, .int .i64 pg, .slice A2 ps.length c2], 28)] wr) (fun i _ => ps.length - (intOf i).toNat)
  case atStart => exact ⟨0, Nat.zero_le _, rfl, H0.out⟩
  case round =>
    obtain ⟨k, hk, rfl, hbx⟩ := hrel
    have HX := Lib.hid hbx
    clear hbx H0
    have hcb := blkCell HX.out.get0
    have hcc := blkCell HX.out.get1
    by_cases hlt : k < ps.length
    · have hlt2 : k < qs.length := by omega
      obtain ⟨b, off, rfl, hca, hbl, hcell⟩ := read_at colC_len (HP.out.below HX.out.below) hlt
      obtain ⟨b2, off2, rfl, hca2, hbl2, hcell2⟩ := read_at colC_len (HQ.out.below HX.out.below) hlt2
      have hm1 := List.getElem_mem hlt
      have hm2 := List.getElem_mem hlt2
      have heq := HEQ.out k hlt hlt2
      generalize ps[k] = x at hcell hm1 heq
      generalize qs[k] = y at hcell2 hm2 heq
      have hx1 := (HPC.out x hm1).below HX.out.below
      have hx2 := (HQC.out y hm2).below HX.out.below
      have hxb := HBC.out x hm1
      obtain ⟨xc, E, ec, C, cc⟩ := x
      obtain ⟨yc, E2, ec2, C2, cc2⟩ := y
      simp only at heq
      subst heq
      have HSC := Lib.hid (fun W (hW : Below wr.heap.size wr W) => samecol_any xc hxb E ec C cc E2 ec2 C2 cc2 W (hx1.below hW) (hx2.below hW))
      clear hx1 hx2 hxb hm1 hm2
      obtain ⟨nu, di, es, cs⟩ := xc
      dsimp only [colA] at HSC
      have HC1 := Lib.hid (show ∀ u, Below wr.heap.size wr u → u.rangeAt b (off + k * 4) [.int .i64 nu, .int .i64 di, .slice E es.length ec, .slice C cs.length cc] from fun u hu i v hi => by rw [hu.cell (p := ⟨b, off + k * 4 + i, none⟩) hbl]; exact hcell i v hi)
      have HC2 := Lib.hid (show ∀ u, Below wr.heap.size wr u → u.rangeAt b2 (off2 + k * 4) [.int .i64 nu, .int .i64 di, .slice E2 es.length ec2, .slice C2 cs.length cc2] from fun u hu i v hi => by rw [hu.cell (p := ⟨b2, off2 + k * 4 + i, none⟩) hbl2]; exact hcell2 i v hi)
      clear hcell hcell2
      have hk0 : (0 : Int) ≤ (k : Int) := by omega
      have hki : (k : Int) < (ps.length : Int) := by omega
      have hwk : IntKind.i64.wrap ((k : Int) + 1) = (k : Int) + 1 := IntWalk.i64_in _ (by omega)
      have HCB := Lib.hid HX.out.get0
      have HCC := Lib.hid HX.out.get1
      clear hlen
      go_upto_region 6 with fail
      clear hcb hcc
      have hSn : Below wr.heap.size wr wr.drew := (Below.refl _ wr).drew
      refine wp_region_held_drew (S := (fun u => Below wr.heap.size wr u)) (by kernel_rfl) ?_ (fun hHeld => ?_)
      · exact hSn
      generalize wr.drew = w9 at hSn ⊢
      refine tkW 0 (some 41) (v := ?_) rfl ?_ ?_
      rotate_left
      · intro u hSu; have hSa := blkCell (blkOld HCB.out hSu); have hSb := blkCell (blkOld HCC.out hSu); clear hSu; go_simp; (try with_reducible rfl)
      try simp only [Act.put, List.setIfInBounds_toArray, List.set_cons_zero, List.set_cons_succ]
      refine tkW 1 (some 42) (v := ?_) rfl ?_ ?_
      rotate_left
      · intro u hSu; have hSa := blkCell (blkOld HCB.out hSu); have hSb := blkCell (blkOld HCC.out hSu); clear hSu; go_simp; (try with_reducible rfl)
      try simp only [Act.put, List.setIfInBounds_toArray, List.set_cons_zero, List.set_cons_succ]
      refine tkW 2 (some 43) (v := ?_) rfl ?_ ?_
      rotate_left
      · intro u hSu; have hSa := blkCell (blkOld HCB.out hSu); have hSb := blkCell (blkOld HCC.out hSu); clear hSu; go_simp; (try with_reducible rfl)
      try simp only [Act.put, List.setIfInBounds_toArray, List.set_cons_zero, List.set_cons_succ]
      refine tkW 3 (some 44) (v := ?_) rfl ?_ ?_
      rotate_left
      · intro u hSu; have hSa := blkCell (blkOld HCB.out hSu); have hSb := blkCell (blkOld HCC.out hSu); clear hSu; go_simp; (try with_reducible rfl)
      try simp only [Act.put, List.setIfInBounds_toArray, List.set_cons_zero, List.set_cons_succ]
      refine tkV 4 (some 45) (v := .agg #[.int .i64 nu, .int .i64 di, .slice E es.length ec, .slice C cs.length cc]) rfl (yieldsIf_load_mid (by rfl) 39 (.tmp 44) rfl b (off + k * 4) (by rfl) [.int .i64 nu, .int .i64 di, .slice E es.length ec, .slice C cs.length cc] _ HC1.out Try.underlying39 (by kernel_rfl) (by kernel_rfl)) ?_
      try simp only [Act.put, List.setIfInBounds_toArray, List.set_cons_zero, List.set_cons_succ]
      refine tkW 5 (some 46) (v := ?_) rfl ?_ ?_
      rotate_left
      · intro u hSu; have hSa := blkCell (blkOld HCB.out hSu); have hSb := blkCell (blkOld HCC.out hSu); clear hSu; go_simp; (try with_reducible rfl)
      try simp only [Act.put, List.setIfInBounds_toArray, List.set_cons_zero, List.set_cons_succ]
      refine tkW 6 (some 47) (v := ?_) rfl ?_ ?_
      rotate_left
      · intro u hSu; have hSa := blkCell (blkOld HCB.out hSu); have hSb := blkCell (blkOld HCC.out hSu); clear hSu; go_simp; (try with_reducible rfl)
      try simp only [Act.put, List.setIfInBounds_toArray, List.set_cons_zero, List.set_cons_succ]
      refine tkW 7 (some 48) (v := ?_) rfl ?_ ?_
      rotate_left
      · intro u hSu; have hSa := blkCell (blkOld HCB.out hSu); have hSb := blkCell (blkOld HCC.out hSu); clear hSu; go_simp; (try with_reducible rfl)
      try simp only [Act.put, List.setIfInBounds_toArray, List.set_cons_zero, List.set_cons_succ]
      refine tkW 8 (some 49) (v := ?_) rfl ?_ ?_
      rotate_left
      · intro u hSu; have hSa := blkCell (blkOld HCB.out hSu); have hSb := blkCell (blkOld HCC.out hSu); clear hSu; go_simp; (try with_reducible rfl)
      try simp only [Act.put, List.setIfInBounds_toArray, List.set_cons_zero, List.set_cons_succ]
      refine tkV 9 (some 50) (v := .agg #[.int .i64 nu, .int .i64 di, .slice E2 es.length ec2, .slice C2 cs.length cc2]) rfl (yieldsIf_load_mid (by rfl) 39 (.tmp 49) rfl b2 (off2 + k * 4) (by rfl) [.int .i64 nu, .int .i64 di, .slice E2 es.length ec2, .slice C2 cs.length cc2] _ HC2.out Try.underlying39 (by kernel_rfl) (by kernel_rfl)) ?_
      try simp only [Act.put, List.setIfInBounds_toArray, List.set_cons_zero, List.set_cons_succ]
      refine rdH 10 (some 51) rfl (fun K hK => ?_)
      go_simp
      (with_reducible refine (HSC.out _ hSn).mono ?_); rintro e w2 ⟨rfl, hb2⟩; have hSm := joinB hSn hb2; clear hSn hb2; have hSn := hSm; clear hSm
      refine hK.out _ _ ?_ (fun hHeld => ?_)
      · exact hSn
      clear hK K
      try simp only [Act.put, List.setIfInBounds_toArray, List.set_cons_zero, List.set_cons_succ]
      refine tkW 11 (some 52) (v := ?_) rfl ?_ ?_
      rotate_left
      · intro u hSu; have hSa := blkCell (blkOld HCB.out hSu); have hSb := blkCell (blkOld HCC.out hSu); clear hSu; go_simp; (try with_reducible rfl)
      try simp only [Act.put, List.setIfInBounds_toArray, List.set_cons_zero, List.set_cons_succ]
      refine wpAnyH_done (by kernel_rfl) ?_ _
      clear hHeld HC1 HC2 HCB HCC HSC
      go_wp2_with fail
      go_roundw
      case rel => exact ⟨k + 1, by omega, by go_num, HX.out.step hSn⟩
      case measure => simp [intOf]; omega
    · obtain rfl : k = ps.length := by omega
      go_wp2_with fail
      go_ret
      exact ⟨by simp, HX.out.below⟩
theorem belowRow {B g : Nat} {w u : World} (hg : B ≤ g) (hb : Below B w u) (cs : Array Value) : Below B w (u.setRow g cs) :=
  ⟨hb.os, hb.tape, hb.output, by show _ ≤ (u.heap.modify _ _).size; have := hb.size; simpa using this, fun k hk => by show (u.heap.modify _ _)[k]? = _; rw [Array.getElem?_modify, if_neg (by omega)]; exact hb.block k hk⟩
end Go.Proofs.Ytmhpbmobfdgkeaa
/- Rows of the call's own: a value in the midst is stored; the row is sorted; a row is cloned. -/
namespace Go.Proofs.Ytmhpbmobfdgkeaa
open Go.RowKit Go.Sort Go.Shelf
instance : Inhabited Sp.Val := ⟨Sp.nullV⟩
instance : Inhabited Sp.Oft := ⟨⟨Sp.nullV, 0⟩⟩
section
variable {α : Type} {enc : α → List Value} {k : Nat} {e : TypeId} {B g c : Nat} {w : World} {l : List α}
theorem flat_put (hk : ∀ x, (enc x).length = k) (l : List α) (i : Nat) (hi : i < l.length) (x : α) (t : Nat) : ((l.set i x).flatMap enc)[t]? = if i * k ≤ t ∧ t < i * k + k then (enc x)[t - i * k]? else (l.flatMap enc)[t]? := by
  have hle : i * k + k ≤ l.length * k := by have := Nat.mul_le_mul_right k (show i + 1 ≤ l.length from hi); rwa [Nat.add_mul, Nat.one_mul] at this
  by_cases hin : i * k ≤ t ∧ t < i * k + k
  · rw [if_pos hin]
    obtain ⟨j, rfl⟩ : ∃ j, t = i * k + j := ⟨t - i * k, by omega⟩
    rw [flat_at hk (l.set i x) i j (by rw [List.length_set]; exact hi) (by omega), List.getElem_set_self, Nat.add_sub_cancel_left]
  · rw [if_neg hin]
    by_cases ht : t < l.length * k
    · have hk0 : 0 < k := by rcases Nat.eq_zero_or_pos k with h | h; (· subst h; omega); (· exact h)
      have hd : t / k < l.length := by rw [Nat.div_lt_iff_lt_mul hk0]; exact ht
      have hm : t % k < k := Nat.mod_lt _ hk0
      have e1 : t = t / k * k + t % k := by rw [Nat.mul_comm]; exact (Nat.div_add_mod t k).symm
      have hne : i ≠ t / k := fun h => hin (by rw [h]; omega)
      rw [e1, flat_at hk (l.set i x) (t / k) (t % k) (by rw [List.length_set]; exact hd) hm, flat_at hk l (t / k) (t % k) hd hm, List.getElem_set_ne hne]
    · rw [List.getElem?_eq_none (by rw [flat_len hk, List.length_set]; omega), List.getElem?_eq_none (by rw [flat_len hk]; omega)]
/-- What a row of the call's own is in memory. -/
theorem own_blk (ho : OwnL enc k e B w (.slice (some ⟨g, 0, none⟩) l.length c) l) : ∃ cur : Array Value, B ≤ g ∧ g < w.heap.size ∧ w.heap[g]? = some (.cells cur e (0, 0)) ∧ l.length ≤ c ∧ c ≤ maxLen ∧ cur.size = c * k ∧ ∀ t, t < l.length * k → cur[t]? = (l.flatMap enc)[t]? := by
  obtain ⟨hxl, h2⟩ := ho
  rcases h2 with ⟨h0, _⟩ | ⟨g', cap, cur, hv, hgB, hh, hnc, hcap, hsz, htake⟩
  · cases h0
  injection hv with hv1 hv2 hv3
  injection hv1 with hv1
  injection hv1 with hv1 _ _
  subst hv1 hv3
  refine ⟨cur, hgB, heapLt hh, hh, hnc, hcap, hsz, fun t ht => ?_⟩
  rw [← htake, List.getElem?_take, if_pos ht, Array.getElem?_toList]
theorem own_mk {cur : Array Value} (hk : ∀ x, (enc x).length = k) (hB : B ≤ g) (hg : w.heap[g]? = some (.cells cur e (0, 0))) (hn : l.length ≤ c) (hc : c ≤ maxLen) (hs : cur.size = c * k) (h : ∀ t, t < l.length * k → cur[t]? = (l.flatMap enc)[t]?) : OwnL enc k e B w (.slice (some ⟨g, 0, none⟩) l.length c) l := by
  refine ⟨flat_len hk l, .inr ⟨g, c, cur, rfl, hB, hg, hn, hc, hs, ?_⟩⟩
  refine List.ext_getElem? fun t => ?_
  rw [List.getElem?_take]
  by_cases ht : t < l.length * k
  · rw [if_pos ht, Array.getElem?_toList, h t ht]
  · rw [if_neg ht, List.getElem?_eq_none (by rw [flat_len hk]; omega)]
/-- A value is stored in the midst. -/
theorem own_put (hk : ∀ x, (enc x).length = k) (ho : OwnL enc k e B w (.slice (some ⟨g, 0, none⟩) l.length c) l) (i : Nat) (hi : i < l.length) (x : α) :
    w.there g (i * k) k ∧ OwnL enc k e B (w.setCells g (i * k) (enc x)) (.slice (some ⟨g, 0, none⟩) (l.set i x).length c) (l.set i x) ∧ Below B w (w.setCells g (i * k) (enc x)) := by
  obtain ⟨cur, hB, hg, hh, hn, hc, hs, ht⟩ := own_blk ho
  have hle : i * k + k ≤ l.length * k := by have := Nat.mul_le_mul_right k (show i + 1 ≤ l.length from hi); rwa [Nat.add_mul, Nat.one_mul] at this
  have hlc : l.length * k ≤ c * k := Nat.mul_le_mul_right _ hn
  obtain ⟨cur', k1, k2, k3⟩ := setCells_blk (enc x) (i * k) cur w hh
  refine ⟨fun j hj => ⟨by rw [blkCell hh, Array.getElem?_eq_getElem (by omega)]; rfl, blkFrozen hh _⟩, own_mk hk hB k1 (by rw [List.length_set]; exact hn) hc (by rw [k2]; exact hs) (fun t h => ?_), setCells_below hB _ _ _⟩
  rw [List.length_set] at h
  rw [k3, flat_put hk l i hi x t, hk]
  by_cases hin : i * k ≤ t ∧ t < i * k + k
  · rw [if_pos ⟨hin.1, hin.2, by omega⟩, if_pos hin]
  · rw [if_neg (fun h => hin ⟨h.1, h.2.1⟩), if_neg hin, ht t h]
variable [Inhabited α]
theorem flat_get (hk : ∀ x, (enc x).length = k) (l : List α) (t : Nat) (ht : t < l.length * k) : (l.flatMap enc)[t]? = some (flatK enc k l.toArray)[t]! := by
  have hk0 : 0 < k := by rcases Nat.eq_zero_or_pos k with h | h; (· subst h; omega); (· exact h)
  have hd : t / k < l.length := by rw [Nat.div_lt_iff_lt_mul hk0]; exact ht
  have hm : t % k < k := Nat.mod_lt _ hk0
  rw [get_flatK enc k l.toArray t (by simpa using ht)]
  have e1 : t = t / k * k + t % k := by rw [Nat.mul_comm]; exact (Nat.div_add_mod t k).symm
  conv => lhs; rw [e1, flat_at hk l (t / k) (t % k) hd hm]
  have e2 : l.toArray[t / k]! = l[t / k] := by simp [hd]
  rw [e2, List.getElem!_eq_getElem?_getD, List.getElem?_eq_getElem (by rw [hk]; exact hm)]
  rfl
theorem own_holds (hk : ∀ x, (enc x).length = k) (ho : OwnL enc k e B w (.slice (some ⟨g, 0, none⟩) l.length c) l) : HoldsK enc k w g 0 l.toArray := by
  obtain ⟨cur, hB, hg, hh, hn, hc, hs, ht⟩ := own_blk ho
  intro j hj
  rw [size_flatK, List.size_toArray] at hj
  refine ⟨?_, blkFrozen hh _⟩
  rw [blkCell hh, Nat.zero_add, ht j hj, flat_get hk l j hj]
  rfl
theorem own_sorted (hk : ∀ x, (enc x).length = k) (ho : OwnL enc k e B w (.slice (some ⟨g, 0, none⟩) l.length c) l) (l' : List α) (hl : l'.length = l.length) (n : Nat) (os : Array Obj) :
    OwnL enc k e B (sortWorldK enc k w g 0 n l'.toArray os) (.slice (some ⟨g, 0, none⟩) l.length c) l' ∧ Below B w (sortWorldK enc k w g 0 n l'.toArray os) := by
  obtain ⟨cur, hB, hg, hh, hn, hc, hs, ht⟩ := own_blk ho
  have hlc : l.length * k ≤ c * k := Nat.mul_le_mul_right _ hn
  have hblk : (sortWorldK enc k w g 0 n l'.toArray os).heap[g]? = some (.cells (putCells id 0 (flatK enc k l'.toArray) cur) e (0, 0)) := by
    show (w.heap.modify g _ ++ os)[g]? = _
    rw [Array.getElem?_append_left (by rw [Array.size_modify]; exact hg), Array.getElem?_modify, if_pos rfl, hh]
    rfl
  refine ⟨?_, ⟨rfl, rfl, rfl, ?_, fun j hj => ?_⟩⟩
  · rw [← hl]
    refine own_mk hk hB hblk (by rw [hl]; exact hn) hc (by unfold putCells; rw [Array.size_mapIdx]; exact hs) (fun t h => ?_)
    rw [hl] at h
    unfold putCells
    rw [Array.getElem?_mapIdx, Array.getElem?_eq_getElem (by omega), Option.map_some, size_flatK, List.size_toArray, if_pos ⟨Nat.zero_le _, by rw [hl]; omega⟩, flat_get hk l' t (by rw [hl]; exact h)]
    rfl
  · show w.heap.size ≤ (w.heap.modify g _ ++ os).size
    rw [Array.size_append, Array.size_modify]; omega
  · show (w.heap.modify g _ ++ os)[j]? = _
    rw [Array.getElem?_append_left (by rw [Array.size_modify]; omega), Array.getElem?_modify, if_neg (by omega)]
end
theorem tot_swo {α : Type} {o : α → α → Int} (t : Sp.Tot o) : SWO (ltOf o) := by
  refine ⟨fun x => by simp [ltOf, t.self], fun x y z h1 h2 => ?_, fun x y z h1 h2 => ?_⟩
  · simp only [ltOf, decide_eq_true_eq] at *
    exact t.trans h1 h2
  · simp only [ltOf, decide_eq_false_iff_not] at *
    have n1 := t.neg x y; have n2 := t.neg y z; have n3 := t.neg x z
    have := t.le_trans (a := z) (b := y) (c := x) (by omega) (by omega)
    omega
theorem tot_eq {α : Type} {o : α → α → Int} (t : Sp.Tot o) (x y : α) (h1 : (ltOf o) x y = false) (h2 : (ltOf o) y x = false) : x = y := by
  simp only [ltOf, decide_eq_false_iff_not] at *
  exact t.anti (by have := t.neg x y; omega) (by have := t.neg x y; omega)
set_option maxRecDepth 100000 in
set_option maxHeartbeats 1000000 in
/-- slices.SortFunc at a row of the call's own. -/
theorem sortV_any (l : List Sp.Val) (hl : l.length ≤ 1000000) (B : Nat) (v : Value) (w : World) (ho : OwnL valC 3 36 B w v l) (hB : B ≤ w.heap.size) :
    Calls Try.prog 37 #[v, .func (.func 13) #[] #[]] w fun e w' => e = .returned (.tuple #[]) ∧ OwnL valC 3 36 B w' v (Sp.sortO Sp.ordV l) ∧ Below B w w' := by
  have h2 := ho.2
  rcases h2 with ⟨rfl, h0⟩ | ⟨g, cap, cur, rfl, _⟩
  · have hl0 : l = [] := List.eq_nil_of_length_eq_zero h0
    subst hl0
    refine (AnyF.slices_SortFunc_none Try.sortV none 0 (.func (.func 13) #[] #[]) w).mono ?_
    rintro e w' ⟨rfl, rfl⟩
    exact ⟨rfl, by simpa [Sp.sortO] using ho, Below.refl _ _⟩
  · have hO := own_holds (k := 3) valC_len ho
    obtain ⟨cur', _, hg, hh, _⟩ := own_blk ho
    have h := AnyQ.slices_SortFunc_total Try.sortV 3 Try.isAgg36 Try.sizeOf36 valC valC_len valC_one Sp.ordV (tot_swo Sp.totV) 13 #[] g 0 cap l.toArray w (enters_of Try.func13 (by kernel_rfl) rfl) (fun m os dk hs x y => (order_any x y _).mono (fun e w' h => ⟨h.1, h.2⟩)) hO hg (by simp; omega) (tot_eq Sp.totV)
    simp only [List.size_toArray] at h
    refine Calls.mono h ?_
    rintro e w' ⟨rfl, n, os, rfl⟩
    have hs := own_sorted valC_len ho (Sp.sortO Sp.ordV l) (Sp.sort_len _ _) n os
    refine ⟨rfl, ?_, hs.2⟩
    show World.ownsRow _ B 36 3 _ (Sp.sortO Sp.ordV l).length _
    rw [Sp.sort_len]
    have h3 := hs.1
    unfold OwnL at h3
    rw [Sp.sort_len] at h3
    exact h3
set_option maxRecDepth 100000 in
set_option maxHeartbeats 1000000 in
/-- slices.SortFunc at a row of the call's own. -/
theorem sortO_any (l : List Sp.Oft) (hl : l.length ≤ 1000000) (B : Nat) (v : Value) (w : World) (ho : OwnL oftC 4 48 B w v l) (hB : B ≤ w.heap.size) :
    Calls Try.prog 42 #[v, .func (.func 43) #[] #[]] w fun e w' => e = .returned (.tuple #[]) ∧ OwnL oftC 4 48 B w' v (Sp.sortO Sp.ordO l) ∧ Below B w w' := by
  have h2 := ho.2
  rcases h2 with ⟨rfl, h0⟩ | ⟨g, cap, cur, rfl, _⟩
  · have hl0 : l = [] := List.eq_nil_of_length_eq_zero h0
    subst hl0
    refine (AnyF.slices_SortFunc_none Try.sortO none 0 (.func (.func 43) #[] #[]) w).mono ?_
    rintro e w' ⟨rfl, rfl⟩
    exact ⟨rfl, by simpa [Sp.sortO] using ho, Below.refl _ _⟩
  · have hO := own_holds (k := 4) oftC_len ho
    obtain ⟨cur', _, hg, hh, _⟩ := own_blk ho
    have h := AnyQ.slices_SortFunc_total Try.sortO 4 Try.isAgg48 Try.sizeOf48 oftC oftC_len oftC_one Sp.ordO (tot_swo Sp.totO) 43 #[] g 0 cap l.toArray w (enters_of Try.func43 (by kernel_rfl) rfl) (fun m os dk hs x y => (ahead_any x y _).mono (fun e w' h => ⟨h.1, h.2⟩)) hO hg (by simp; omega) (tot_eq Sp.totO)
    simp only [List.size_toArray] at h
    refine Calls.mono h ?_
    rintro e w' ⟨rfl, n, os, rfl⟩
    have hs := own_sorted oftC_len ho (Sp.sortO Sp.ordO l) (Sp.sort_len _ _) n os
    refine ⟨rfl, ?_, hs.2⟩
    show World.ownsRow _ B 48 4 _ (Sp.sortO Sp.ordO l).length _
    rw [Sp.sort_len]
    have h3 := hs.1
    unfold OwnL at h3
    rw [Sp.sort_len] at h3
    exact h3
set_option maxRecDepth 100000 in
set_option maxHeartbeats 4000000 in
theorem cloneV_any (l : List Sp.Val) (hl : l.length ≤ 1000000) (A : Option Addr) (c : Nat) (w : World) (hr : Reads w A c l.length (l.flatMap valC)) :
    Calls Try.prog 34 #[.slice A l.length c] w fun e w' => ∃ v, e = .returned v ∧ OwnL valC 3 36 w.heap.size w' v l ∧ Below w.heap.size w w' := by
  obtain ⟨i0, hi, hz0, hz1, hz2⟩ := info_parts info_val
  have HR := Lib.hid hr
  cases A with
  | none =>
    have hl0 : l = [] := by
      rcases Nat.eq_zero_or_pos l.length with h0 | h0
      · exact List.eq_nil_of_length_eq_zero h0
      · obtain ⟨b, off, e, _⟩ := hr h0
        cases e
    subst hl0
    clear hr HR
    have hq : ∀ w, (binOp .eql 32 (.slice none 0 c) (.slice none 0 0)).run Try.prog w = .ok (.bool true) w := fun w => Lib.run_eql_slice_nil w 32 36 none 0 c 0 0 Try.underlying32
    simp only [List.length_nil]
    go_enter Try.func34, Try.ntmps34
    go_wp2_with fail
    go_ret
    exact ⟨_, rfl, ownNil _ _ _ _, Below.refl _ _⟩
  | some ad =>
    have HRD := Lib.hid (hr.below (allocB w (.cells #[] 36)))
    have hq : ∀ w, (binOp .eql 32 (.slice (some ad) l.length c) (.slice none 0 0)).run Try.prog w = .ok (.bool false) w := fun w => Lib.run_eql_slice_nil w 32 36 (some ad) l.length c 0 0 Try.underlying32
    clear hr
    go_enter Try.func34, Try.ntmps34
    go_wp2_with (at_builtin; refine listWants (by kernel_rfl) fun K hK => wp_appR (w.alloc (.cells #[] 36)) (.tmp 5) (.tmp 6) 32 36 i0 (.agg (valA Sp.nullV)) 3 32 Try.underlying32 hi hz0 hz1 hz2 rfl (by omega) rfl w.heap.size _ 0 [] rfl (ownEmpty w 36 3) (some ad) l.length c (l.flatMap valC) rfl HRD.out (by rw [flat_len valC_len]) (valC_all l) (by omega) (by omega) (by simp) ?_; intro v2 w2 ho hg hb; refine hK _ _ ?_)
    go_ret
    rw [List.nil_append, Nat.zero_add] at ho
    exact ⟨_, rfl, ho, (allocB w (.cells #[] 36)).trans hb⟩
set_option maxRecDepth 100000 in
set_option maxHeartbeats 4000000 in
theorem cloneO_any (l : List Sp.Oft) (hl : l.length ≤ 1000000) (A : Option Addr) (c : Nat) (w : World) (hr : Reads w A c l.length (l.flatMap oftC)) :
    Calls Try.prog 40 #[.slice A l.length c] w fun e w' => ∃ v, e = .returned v ∧ OwnL oftC 4 48 w.heap.size w' v l ∧ Below w.heap.size w w' := by
  obtain ⟨i0, hi, hz0, hz1, hz2⟩ := info_parts info_oft
  have HR := Lib.hid hr
  cases A with
  | none =>
    have hl0 : l = [] := by
      rcases Nat.eq_zero_or_pos l.length with h0 | h0
      · exact List.eq_nil_of_length_eq_zero h0
      · obtain ⟨b, off, e, _⟩ := hr h0
        cases e
    subst hl0
    clear hr HR
    have hq : ∀ w, (binOp .eql 37 (.slice none 0 c) (.slice none 0 0)).run Try.prog w = .ok (.bool true) w := fun w => Lib.run_eql_slice_nil w 37 48 none 0 c 0 0 Try.underlying37
    simp only [List.length_nil]
    go_enter Try.func40, Try.ntmps40
    go_wp2_with fail
    go_ret
    exact ⟨_, rfl, ownNil _ _ _ _, Below.refl _ _⟩
  | some ad =>
    have HRD := Lib.hid (hr.below (allocB w (.cells #[] 48)))
    have hq : ∀ w, (binOp .eql 37 (.slice (some ad) l.length c) (.slice none 0 0)).run Try.prog w = .ok (.bool false) w := fun w => Lib.run_eql_slice_nil w 37 48 (some ad) l.length c 0 0 Try.underlying37
    clear hr
    go_enter Try.func40, Try.ntmps40
    go_wp2_with (at_builtin; refine listWants (by kernel_rfl) fun K hK => wp_appR (w.alloc (.cells #[] 48)) (.tmp 5) (.tmp 6) 37 48 i0 (.agg (oftA ⟨Sp.nullV, 0⟩)) 4 40 Try.underlying37 hi hz0 hz1 hz2 rfl (by omega) rfl w.heap.size _ 0 [] rfl (ownEmpty w 48 4) (some ad) l.length c (l.flatMap oftC) rfl HRD.out (by rw [flat_len oftC_len]) (oftC_all l) (by omega) (by omega) (by simp) ?_; intro v2 w2 ho hg hb; refine hK _ _ ?_)
    go_ret
    rw [List.nil_append, Nat.zero_add] at ho
    exact ⟨_, rfl, ho, (allocB w (.cells #[] 48)).trans hb⟩
end Go.Proofs.Ytmhpbmobfdgkeaa
