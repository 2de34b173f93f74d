/- The walks over package stat: common, ends. -/
import Derived.Test.YtmhpbmobfdgkeaaHm03
namespace Go.Proofs.Ytmhpbmobfdgkeaa
open Go.RowKit
/-- A column's numbers and values as an argument holds them. -/
structure ColB (c : Sp.ColS) : Prop where
  ends : ∀ v ∈ c.ends, ValB v
  com : ∀ o ∈ c.common, ValB o.v
  el : c.ends.length ≤ 140737488355328
  cl : c.common.length ≤ 140737488355328
set_option maxRecDepth 100000 in
set_option maxHeartbeats 4000000 in
theorem common_any (p : PCol) (hb : ColB p.c) (rest : Int) (hr0 : 0 ≤ rest) (hr1 : rest ≤ 1000000000000) (hd0 : 0 ≤ p.c.distinct) (hd1 : p.c.distinct ≤ rest) (w : World) (hR : PColR w p) :
    Calls Try.prog 25 #[.agg (colA p), .int .i64 rest] w (Says (Sp.commonOk p.c rest) w) := by
  have HB := Lib.hid hb
  have HR := Lib.hid hR.com
  obtain ⟨⟨nu, di, es, cs⟩, E, ec, C, cc⟩ := p
  simp only at hd0 hd1 HB HR
  have HBC := Lib.hid HB.out.com
  have hcl := HB.out.cl
  simp only at HBC hcl
  have HY := Lib.hid (fun (h : Sp.commonOk ⟨nu, di, es, cs⟩ rest) w' hb (e : Ending) he => says_yes (w := w) (w' := w') (e := e) h he hb)
  have HN := Lib.hid (fun (h : ¬ Sp.commonOk ⟨nu, di, es, cs⟩ rest) w' hb (e : Ending) he => says_no (w := w) (w' := w') (e := e) h he hb)
  have HDEF := Lib.hid (show Sp.commonOk ⟨nu, di, es, cs⟩ rest ↔ cs.length ≤ 4 ∧ (cs.length : Int) ≤ di ∧ (∀ i (hi : i < cs.length), Sp.ComAt ⟨nu, di, es, cs⟩ rest i hi) ∧ di - (cs.length : Int) + Sp.sumO cs ≤ rest from Iff.rfl)
  generalize Sp.commonOk ⟨nu, di, es, cs⟩ rest = P at HY HN HDEF ⊢
  generalize Says P w = Q at HY HN ⊢
  clear hb hR HB
  dsimp only [colA]
  have G0 := Lib.hid (Grew.refl w)
  by_cases hl : cs.length ≤ 4 ∧ (cs.length : Int) ≤ di
  rotate_left
  · have HF := Lib.hid (HN.out (fun h => hl ⟨(HDEF.out.1 h).1, (HDEF.out.1 h).2.1⟩))
    have q1 : min 4 di < (cs.length : Int) := by omega
    clear hl HY HN HDEF
    go_enter Try.func25, Try.ntmps25
    go_upto_region 1 with fail
    have H0 := Lib.hid (show BxL w.heap.size w [(#[.int .i64 nu, .int .i64 di, .slice E es.length ec, .slice C cs.length cc], 39)] (w.alloc (.cells #[.int .i64 nu, .int .i64 di, .slice E es.length ec, .slice C cs.length cc] 39)) from ((BxL.nil (Below.refl w.heap.size w)).new (by simp) #[.int .i64 nu, .int .i64 di, .slice E es.length ec, .slice C cs.length cc] 39))
    obtain ⟨W0, hW0⟩ : ∃ W, W = (w.alloc (.cells #[.int .i64 nu, .int .i64 di, .slice E es.length ec, .slice C cs.length cc] 39)) := ⟨_, rfl⟩
    rw [← hW0] at H0 ⊢
    clear hW0
    have hc0 := blkCell H0.out.get0
    go_wp2_with fail
    exact HF.out _ H0.out.below _ (by simp)
  obtain ⟨hl4, hld⟩ := hl
  have q1 : ¬ min 4 di < (cs.length : Int) := by omega
  have q2 : IntKind.i64.wrap (di - (cs.length : Int)) = di - (cs.length : Int) := IntWalk.i64_in _ (by omega)
  go_enter Try.func25, Try.ntmps25
  go_upto_region 1 with fail
  have H0 := Lib.hid (show BxL w.heap.size w [(#[.int .i64 nu, .int .i64 di, .slice E es.length ec, .slice C cs.length cc], 39)] (w.alloc (.cells #[.int .i64 nu, .int .i64 di, .slice E es.length ec, .slice C cs.length cc] 39)) from ((BxL.nil (Below.refl w.heap.size w)).new (by simp) #[.int .i64 nu, .int .i64 di, .slice E es.length ec, .slice C cs.length cc] 39))
  obtain ⟨W0, hW0⟩ : ∃ W, W = (w.alloc (.cells #[.int .i64 nu, .int .i64 di, .slice E es.length ec, .slice C cs.length cc] 39)) := ⟨_, rfl⟩
  rw [← hW0] at H0 ⊢
  clear hW0
  have hc0 := blkCell H0.out.get0
  go_wp2_with fail
  clear hc0
  go_loopw [5, 26] (fun s i wr => ∃ k : Nat, k ≤ cs.length ∧ i = .int .i64 k ∧ s = .int .i64 (di - (cs.length : Int) + Sp.sumO (cs.take k)) ∧ 0 ≤ Sp.sumO (cs.take k) ∧ Sp.sumO (cs.take k) ≤ (k : Int) * 1000000000000 ∧ (∀ j (hj : j < cs.length), j < k → Sp.ComAt ⟨nu, di, es, cs⟩ rest j hj) ∧ BxL w.heap.size w [(#[.int .i64 nu, .int .i64 di, .slice E es.length ec, .slice C cs.length cc], 39)] wr) (fun _ i _ => cs.length - (intOf i).toNat)
  case atStart => exact ⟨0, Nat.zero_le _, rfl, by simp [Sp.sumO], by simp [Sp.sumO], by simp [Sp.sumO], fun _ _ h => absurd h (by omega), H0.out⟩
  case round =>
    obtain ⟨k, hk, rfl, rfl, hs0, hs1, hall, hbx⟩ := hrel
    have HA := Lib.hid hall
    have HX := Lib.hid hbx
    clear hall hbx H0
    by_cases hlt : k < cs.length
    · obtain ⟨b, off, rfl, hca, hbl, hcell⟩ := read_at oftC_len (HR.out.below HX.out.below) hlt
      have hRL := HR.out.below HX.out.below
      have hkm : k - 1 < cs.length := by omega
      have hvb := HBC.out cs[k] (List.getElem_mem hlt)
      have HST := Lib.hid (@Sp.sumO_take cs k hlt)
      have HG := Lib.hid (fun W => good_any cs[k].v hvb W)
      have HAT : Hid (P → Sp.ComAt ⟨nu, di, es, cs⟩ rest k hlt) := Lib.hid (fun h => (HDEF.out.1 h).2.2.1 k hlt)
      have HA1 := Lib.hid (fun h => (HAT.out h).good)
      have HA2 := Lib.hid (fun h => (HAT.out h).two)
      have HA3 := Lib.hid (fun h => (HAT.out h).most)
      have HA4 := Lib.hid (fun h => (HAT.out h).up)
      have HA5 := Lib.hid (fun h => (HAT.out h).unlike)
      have HMK := Lib.hid (show Sp.goodV cs[k].v → 2 ≤ cs[k].n → cs[k].n ≤ rest → (∀ h : 0 < k, Sp.ordO (cs[k - 1]'hkm) cs[k] < 0) → (∀ j (hj : j < k), (cs[j]'(by omega)).v ≠ cs[k].v) → Sp.ComAt ⟨nu, di, es, cs⟩ rest k hlt from fun a b c d e => ⟨a, b, c, d, e⟩)
      have HK1 := Lib.hid (show ∀ h : 0 < k, ∃ y : Sp.Oft, y = cs[k - 1]'hkm ∧ (∀ u, Below wr.heap.size wr u → u.rangeAt b (off + (k - 1) * 4) (oftC y)) from fun h => by
        obtain ⟨b', off', e', _, hbl', hcell'⟩ := read_at oftC_len hRL (show k - 1 < cs.length by omega)
        injection e' with e'
        injection e' with e1 e2
        subst e1 e2
        exact ⟨_, rfl, fun u hu j v hj => by rw [hu.cell (p := ⟨b, off + (k - 1) * 4 + j, none⟩) hbl']; exact hcell' j v hj⟩)
      have HKJ := Lib.hid (show ∀ j (h : j < cs.length), ∀ u, Below wr.heap.size wr u → u.rangeAt b (off + j * 4) (oftC cs[j]) from fun j h => by
        obtain ⟨b', off', e', _, hbl', hcell'⟩ := read_at oftC_len hRL h
        injection e' with e'
        injection e' with e1 e2
        subst e1 e2
        exact fun u hu i v hi => by rw [hu.cell (p := ⟨b, off + j * 4 + i, none⟩) hbl']; exact hcell' i v hi)
      simp only at HA1 HA2 HA3 HA4 HA5
      obtain ⟨x, hx⟩ : ∃ x, x = cs[k] := ⟨_, rfl⟩
      rw [← hx] at hcell HG HA1 HA2 HA3 HA4 HA5 HMK HST
      clear hx hvb HAT hRL
      obtain ⟨⟨ak, an, sa⟩, ac⟩ := x
      simp only at HG HA1 HA2 HA3 HMK HST
      have HCELL := Lib.hid (show wr.rangeAt b (off + k * 4) [.int .i64 ak, .int .i64 an, .string sa, .int .i64 ac] from hcell)
      clear hcell
      dsimp only [valA] at HG
      have hk0 : (0 : Int) ≤ (k : Int) := by omega
      have hki : (k : Int) < (cs.length : Int) := by omega
      have hwk : IntKind.i64.wrap ((k : Int) + 1) = (k : Int) + 1 := IntWalk.i64_in _ (by omega)
      go_upto_region 7 with (first | (with_reducible refine wpList_load_mid rfl 48 (.tmp 29) rfl b (off + k * 4) rfl [.int .i64 ak, .int .i64 an, .string sa, .int .i64 ac] _ HCELL.out Try.underlying48 (by kernel_rfl) (by kernel_rfl) ?_) | (with_reducible refine wpList_store_new rfl 48 (.tmp 7) (.tmp 30) rfl #[.int .i64 ak, .int .i64 an, .string sa, .int .i64 ac] _ _ rfl (by kernel_rfl) (by kernel_rfl) (by kernel_rfl) (by kernel_rfl) ?_))
      have HCB := Lib.hid (blkOld HX.out.get0 (allocB wr (.cells #[.int .i64 ak, .int .i64 an, .string sa, .int .i64 ac] 48)))
      have HOB := Lib.hid (heap_alloc_new wr (.cells #[.int .i64 ak, .int .i64 an, .string sa, .int .i64 ac] 48))
      have hga := heapLt HX.out.get0
      have HBW := Lib.hid (allocB wr (.cells #[.int .i64 ak, .int .i64 an, .string sa, .int .i64 ac] 48))
      obtain ⟨go, hgo⟩ : ∃ g, g = wr.heap.size := ⟨_, rfl⟩
      obtain ⟨W1, hW1⟩ : ∃ W, W = wr.alloc (.cells #[.int .i64 ak, .int .i64 an, .string sa, .int .i64 ac] 48) := ⟨_, rfl⟩
      rw [← hW1] at HCB HBW
      rw [← hgo, ← hW1] at HOB
      rw [← hgo] at hga
      rw [← hW1, ← hgo]
      clear hW1 HCELL
      have HGO := Lib.hid hgo
      clear hgo
      simp only [Act.put]
      go_cut [60] (fun q wc => ∃ t : Bool, q = .bool t ∧ (t = true → ¬ P) ∧ (t = false → Sp.goodV ⟨ak, an, sa⟩ ∧ 2 ≤ ac ∧ ac ≤ rest ∧ (∀ h : 0 < k, Sp.ordO (cs[k - 1]'hkm) ⟨⟨ak, an, sa⟩, ac⟩ < 0)) ∧ Below W1.heap.size W1 wc)
      case first =>
        clear HY HN HDEF HA5 HMK HST HKJ HA
        by_cases hg : Sp.goodV ⟨ak, an, sa⟩
        rotate_left
        · have HP := Lib.hid hg
          have HF := Lib.hid (show ¬ P from fun h => hg (HA1.out h))
          clear hg HA1 HA2 HA3 HA4 HK1
          generalize Sp.goodV ⟨ak, an, sa⟩ = g at HP HG ⊢
          have hSn : Below W1.heap.size W1 W1.drew := (Below.refl _ W1).drew
          refine wp_region_held_drew (S := (fun u => Below W1.heap.size W1 u)) (by kernel_rfl) ?_ (fun hHeld => ?_)
          · exact hSn
          generalize W1.drew = w9 at hSn ⊢
          refine tkW 0 (some 31) (v := ?_) rfl ?_ ?_
          rotate_left
          · intro u hSu; have hSa := blkCell (blkOld HCB.out hSu); have hSb := blkCell (blkOld HOB.out hSu); clear hSu; go_simp; (try with_reducible rfl)
          try simp only [Act.put, List.setIfInBounds_toArray, List.set_cons_zero, List.set_cons_succ]
          refine tkV 1 (some 32) (v := .agg #[.int .i64 ak, .int .i64 an, .string sa]) rfl (yieldsIf_load_mid (by rfl) 36 (.tmp 31) rfl go 0 (by rfl) [.int .i64 ak, .int .i64 an, .string sa] _ (fun u hu j v hj => by rw [blkCell (blkOld HOB.out hu)]; rcases j with _ | _ | _ | _ | j <;> simp at hj ⊢ <;> exact hj) Try.underlying36 (by kernel_rfl) (by kernel_rfl)) ?_
          try simp only [Act.put, List.setIfInBounds_toArray, List.set_cons_zero, List.set_cons_succ]
          refine rdH 2 (some 33) rfl (fun K hK => ?_)
          go_simp
          (with_reducible refine (HG.out _).mono ?_); rintro e w2 ⟨q, rfl, hq, hb2⟩; obtain rfl := q_false hq HP.out; clear hq; have hSm := joinB hSn hb2; clear hSn hb2; have hSn := hSm; clear hSm
          refine hK.out _ _ ?_ (fun hHeld => ?_)
          · exact hSn
          clear hK K
          try simp only [Act.put, List.setIfInBounds_toArray, List.set_cons_zero, List.set_cons_succ]
          refine tkW 3 (some 34) (v := ?_) rfl ?_ ?_
          rotate_left
          · intro u hSu; have hSa := blkCell (blkOld HCB.out hSu); have hSb := blkCell (blkOld HOB.out hSu); clear hSu; go_simp; (try with_reducible rfl)
          try simp only [Act.put, List.setIfInBounds_toArray, List.set_cons_zero, List.set_cons_succ]
          refine tkW 4 (some 35) (v := ?_) rfl ?_ ?_
          rotate_left
          · intro u hSu; have hSa := blkCell (blkOld HCB.out hSu); have hSb := blkCell (blkOld HOB.out hSu); clear hSu; go_simp; (try with_reducible rfl)
          try simp only [Act.put, List.setIfInBounds_toArray, List.set_cons_zero, List.set_cons_succ]
          refine tkO 5 (some 36) rfl ?_
          try simp only [Act.put, List.setIfInBounds_toArray, List.set_cons_zero, List.set_cons_succ]
          refine tkO 6 (some 37) rfl ?_
          try simp only [Act.put, List.setIfInBounds_toArray, List.set_cons_zero, List.set_cons_succ]
          refine tkO 7 (some 38) rfl ?_
          try simp only [Act.put, List.setIfInBounds_toArray, List.set_cons_zero, List.set_cons_succ]
          refine tkW 8 (some 39) (v := ?_) rfl ?_ ?_
          rotate_left
          · intro u hSu; have hSa := blkCell (blkOld HCB.out hSu); have hSb := blkCell (blkOld HOB.out hSu); clear hSu; go_simp; (try with_reducible rfl)
          try simp only [Act.put, List.setIfInBounds_toArray, List.set_cons_zero, List.set_cons_succ]
          refine tkW 9 (some 40) (v := ?_) rfl ?_ ?_
          rotate_left
          · intro u hSu; have hSa := blkCell (blkOld HCB.out hSu); have hSb := blkCell (blkOld HOB.out hSu); clear hSu; go_simp; (try with_reducible rfl)
          try simp only [Act.put, List.setIfInBounds_toArray, List.set_cons_zero, List.set_cons_succ]
          refine tkO 10 (some 41) rfl ?_
          try simp only [Act.put, List.setIfInBounds_toArray, List.set_cons_zero, List.set_cons_succ]
          refine tkO 11 (some 42) rfl ?_
          try simp only [Act.put, List.setIfInBounds_toArray, List.set_cons_zero, List.set_cons_succ]
          refine tkO 12 (some 43) rfl ?_
          try simp only [Act.put, List.setIfInBounds_toArray, List.set_cons_zero, List.set_cons_succ]
          refine tkO 13 (some 44) rfl ?_
          try simp only [Act.put, List.setIfInBounds_toArray, List.set_cons_zero, List.set_cons_succ]
          refine tkW 14 (some 45) (v := ?_) rfl ?_ ?_
          rotate_left
          · intro u hSu; have hSa := blkCell (blkOld HCB.out hSu); have hSb := blkCell (blkOld HOB.out hSu); clear hSu; go_simp; (try with_reducible rfl)
          try simp only [Act.put, List.setIfInBounds_toArray, List.set_cons_zero, List.set_cons_succ]
          refine tkW 15 (some 46) (v := ?_) rfl ?_ ?_
          rotate_left
          · intro u hSu; have hSa := blkCell (blkOld HCB.out hSu); have hSb := blkCell (blkOld HOB.out hSu); clear hSu; go_simp; (try with_reducible rfl)
          try simp only [Act.put, List.setIfInBounds_toArray, List.set_cons_zero, List.set_cons_succ]
          refine tkO 16 (some 47) rfl ?_
          try simp only [Act.put, List.setIfInBounds_toArray, List.set_cons_zero, List.set_cons_succ]
          refine tkO 17 (some 48) rfl ?_
          try simp only [Act.put, List.setIfInBounds_toArray, List.set_cons_zero, List.set_cons_succ]
          refine tkO 18 (some 49) rfl ?_
          try simp only [Act.put, List.setIfInBounds_toArray, List.set_cons_zero, List.set_cons_succ]
          refine tkO 19 (some 50) rfl ?_
          try simp only [Act.put, List.setIfInBounds_toArray, List.set_cons_zero, List.set_cons_succ]
          refine tkO 20 (some 51) rfl ?_
          try simp only [Act.put, List.setIfInBounds_toArray, List.set_cons_zero, List.set_cons_succ]
          refine tkO 21 (some 52) rfl ?_
          try simp only [Act.put, List.setIfInBounds_toArray, List.set_cons_zero, List.set_cons_succ]
          refine tkO 22 (some 53) rfl ?_
          try simp only [Act.put, List.setIfInBounds_toArray, List.set_cons_zero, List.set_cons_succ]
          refine tkO 23 (some 54) rfl ?_
          try simp only [Act.put, List.setIfInBounds_toArray, List.set_cons_zero, List.set_cons_succ]
          refine tkO 24 (some 55) rfl ?_
          try simp only [Act.put, List.setIfInBounds_toArray, List.set_cons_zero, List.set_cons_succ]
          refine tkO 25 (some 56) rfl ?_
          try simp only [Act.put, List.setIfInBounds_toArray, List.set_cons_zero, List.set_cons_succ]
          refine tkO 26 (some 57) rfl ?_
          try simp only [Act.put, List.setIfInBounds_toArray, List.set_cons_zero, List.set_cons_succ]
          refine tkO 27 (some 58) rfl ?_
          try simp only [Act.put, List.setIfInBounds_toArray, List.set_cons_zero, List.set_cons_succ]
          refine tkO 28 (some 59) rfl ?_
          try simp only [Act.put, List.setIfInBounds_toArray, List.set_cons_zero, List.set_cons_succ]
          refine tkW 29 (some 60) (v := ?_) rfl ?_ ?_
          rotate_left
          · intro u hSu; have hSa := blkCell (blkOld HCB.out hSu); have hSb := blkCell (blkOld HOB.out hSu); clear hSu; go_simp; (try with_reducible rfl)
          try simp only [Act.put, List.setIfInBounds_toArray, List.set_cons_zero, List.set_cons_succ]
          refine wpAnyH_done (by kernel_rfl) ?_ _
          clear hHeld
          go_wp2_with fail
          go_meet
          case rel => exact ⟨true, rfl, (fun _ => HF.out), (fun h => by cases h), hSn⟩
        have HP := Lib.hid hg
        by_cases h2 : ac < 2
        · have HF := Lib.hid (show ¬ P from fun h => by have := HA2.out h; omega)
          clear hg HA1 HA2 HA3 HA4 HK1
          generalize Sp.goodV ⟨ak, an, sa⟩ = g at HP HG ⊢
          have hSn : Below W1.heap.size W1 W1.drew := (Below.refl _ W1).drew
          refine wp_region_held_drew (S := (fun u => Below W1.heap.size W1 u)) (by kernel_rfl) ?_ (fun hHeld => ?_)
          · exact hSn
          generalize W1.drew = w9 at hSn ⊢
          refine tkW 0 (some 31) (v := ?_) rfl ?_ ?_
          rotate_left
          · intro u hSu; have hSa := blkCell (blkOld HCB.out hSu); have hSb := blkCell (blkOld HOB.out hSu); clear hSu; go_simp; (try with_reducible rfl)
          try simp only [Act.put, List.setIfInBounds_toArray, List.set_cons_zero, List.set_cons_succ]
          refine tkV 1 (some 32) (v := .agg #[.int .i64 ak, .int .i64 an, .string sa]) rfl (yieldsIf_load_mid (by rfl) 36 (.tmp 31) rfl go 0 (by rfl) [.int .i64 ak, .int .i64 an, .string sa] _ (fun u hu j v hj => by rw [blkCell (blkOld HOB.out hu)]; rcases j with _ | _ | _ | _ | j <;> simp at hj ⊢ <;> exact hj) Try.underlying36 (by kernel_rfl) (by kernel_rfl)) ?_
          try simp only [Act.put, List.setIfInBounds_toArray, List.set_cons_zero, List.set_cons_succ]
          refine rdH 2 (some 33) rfl (fun K hK => ?_)
          go_simp
          (with_reducible refine (HG.out _).mono ?_); rintro e w2 ⟨q, rfl, hq, hb2⟩; obtain rfl := q_true hq HP.out; clear hq; have hSm := joinB hSn hb2; clear hSn hb2; have hSn := hSm; clear hSm
          refine hK.out _ _ ?_ (fun hHeld => ?_)
          · exact hSn
          clear hK K
          try simp only [Act.put, List.setIfInBounds_toArray, List.set_cons_zero, List.set_cons_succ]
          refine tkW 3 (some 34) (v := ?_) rfl ?_ ?_
          rotate_left
          · intro u hSu; have hSa := blkCell (blkOld HCB.out hSu); have hSb := blkCell (blkOld HOB.out hSu); clear hSu; go_simp; (try with_reducible rfl)
          try simp only [Act.put, List.setIfInBounds_toArray, List.set_cons_zero, List.set_cons_succ]
          refine tkW 4 (some 35) (v := ?_) rfl ?_ ?_
          rotate_left
          · intro u hSu; have hSa := blkCell (blkOld HCB.out hSu); have hSb := blkCell (blkOld HOB.out hSu); clear hSu; go_simp; (try with_reducible rfl)
          try simp only [Act.put, List.setIfInBounds_toArray, List.set_cons_zero, List.set_cons_succ]
          refine tkW 5 (some 36) (v := ?_) rfl ?_ ?_
          rotate_left
          · intro u hSu; have hSa := blkCell (blkOld HCB.out hSu); have hSb := blkCell (blkOld HOB.out hSu); clear hSu; go_simp; (try with_reducible rfl)
          try simp only [Act.put, List.setIfInBounds_toArray, List.set_cons_zero, List.set_cons_succ]
          refine tkW 6 (some 37) (v := ?_) rfl ?_ ?_
          rotate_left
          · intro u hSu; have hSa := blkCell (blkOld HCB.out hSu); have hSb := blkCell (blkOld HOB.out hSu); clear hSu; go_simp; (try with_reducible rfl)
          try simp only [Act.put, List.setIfInBounds_toArray, List.set_cons_zero, List.set_cons_succ]
          refine tkW 7 (some 38) (v := ?_) rfl ?_ ?_
          rotate_left
          · intro u hSu; have hSa := blkCell (blkOld HCB.out hSu); have hSb := blkCell (blkOld HOB.out hSu); clear hSu; go_simp; (try with_reducible rfl)
          try simp only [Act.put, List.setIfInBounds_toArray, List.set_cons_zero, List.set_cons_succ]
          refine tkW 8 (some 39) (v := ?_) rfl ?_ ?_
          rotate_left
          · intro u hSu; have hSa := blkCell (blkOld HCB.out hSu); have hSb := blkCell (blkOld HOB.out hSu); clear hSu; go_simp; (try with_reducible rfl)
          try simp only [Act.put, List.setIfInBounds_toArray, List.set_cons_zero, List.set_cons_succ]
          refine tkW 9 (some 40) (v := ?_) rfl ?_ ?_
          rotate_left
          · intro u hSu; have hSa := blkCell (blkOld HCB.out hSu); have hSb := blkCell (blkOld HOB.out hSu); clear hSu; go_simp; (try with_reducible rfl)
          try simp only [Act.put, List.setIfInBounds_toArray, List.set_cons_zero, List.set_cons_succ]
          refine tkO 10 (some 41) rfl ?_
          try simp only [Act.put, List.setIfInBounds_toArray, List.set_cons_zero, List.set_cons_succ]
          refine tkO 11 (some 42) rfl ?_
          try simp only [Act.put, List.setIfInBounds_toArray, List.set_cons_zero, List.set_cons_succ]
          refine tkO 12 (some 43) rfl ?_
          try simp only [Act.put, List.setIfInBounds_toArray, List.set_cons_zero, List.set_cons_succ]
          refine tkO 13 (some 44) rfl ?_
          try simp only [Act.put, List.setIfInBounds_toArray, List.set_cons_zero, List.set_cons_succ]
          refine tkW 14 (some 45) (v := ?_) rfl ?_ ?_
          rotate_left
          · intro u hSu; have hSa := blkCell (blkOld HCB.out hSu); have hSb := blkCell (blkOld HOB.out hSu); clear hSu; go_simp; (try with_reducible rfl)
          try simp only [Act.put, List.setIfInBounds_toArray, List.set_cons_zero, List.set_cons_succ]
          refine tkW 15 (some 46) (v := ?_) rfl ?_ ?_
          rotate_left
          · intro u hSu; have hSa := blkCell (blkOld HCB.out hSu); have hSb := blkCell (blkOld HOB.out hSu); clear hSu; go_simp; (try with_reducible rfl)
          try simp only [Act.put, List.setIfInBounds_toArray, List.set_cons_zero, List.set_cons_succ]
          refine tkO 16 (some 47) rfl ?_
          try simp only [Act.put, List.setIfInBounds_toArray, List.set_cons_zero, List.set_cons_succ]
          refine tkO 17 (some 48) rfl ?_
          try simp only [Act.put, List.setIfInBounds_toArray, List.set_cons_zero, List.set_cons_succ]
          refine tkO 18 (some 49) rfl ?_
          try simp only [Act.put, List.setIfInBounds_toArray, List.set_cons_zero, List.set_cons_succ]
          refine tkO 19 (some 50) rfl ?_
          try simp only [Act.put, List.setIfInBounds_toArray, List.set_cons_zero, List.set_cons_succ]
          refine tkO 20 (some 51) rfl ?_
          try simp only [Act.put, List.setIfInBounds_toArray, List.set_cons_zero, List.set_cons_succ]
          refine tkO 21 (some 52) rfl ?_
          try simp only [Act.put, List.setIfInBounds_toArray, List.set_cons_zero, List.set_cons_succ]
          refine tkO 22 (some 53) rfl ?_
          try simp only [Act.put, List.setIfInBounds_toArray, List.set_cons_zero, List.set_cons_succ]
          refine tkO 23 (some 54) rfl ?_
          try simp only [Act.put, List.setIfInBounds_toArray, List.set_cons_zero, List.set_cons_succ]
          refine tkO 24 (some 55) rfl ?_
          try simp only [Act.put, List.setIfInBounds_toArray, List.set_cons_zero, List.set_cons_succ]
          refine tkO 25 (some 56) rfl ?_
          try simp only [Act.put, List.setIfInBounds_toArray, List.set_cons_zero, List.set_cons_succ]
          refine tkO 26 (some 57) rfl ?_
          try simp only [Act.put, List.setIfInBounds_toArray, List.set_cons_zero, List.set_cons_succ]
          refine tkO 27 (some 58) rfl ?_
          try simp only [Act.put, List.setIfInBounds_toArray, List.set_cons_zero, List.set_cons_succ]
          refine tkO 28 (some 59) rfl ?_
          try simp only [Act.put, List.setIfInBounds_toArray, List.set_cons_zero, List.set_cons_succ]
          refine tkW 29 (some 60) (v := ?_) rfl ?_ ?_
          rotate_left
          · intro u hSu; have hSa := blkCell (blkOld HCB.out hSu); have hSb := blkCell (blkOld HOB.out hSu); clear hSu; go_simp; (try with_reducible rfl)
          try simp only [Act.put, List.setIfInBounds_toArray, List.set_cons_zero, List.set_cons_succ]
          refine wpAnyH_done (by kernel_rfl) ?_ _
          clear hHeld
          go_wp2_with fail
          go_meet
          case rel => exact ⟨true, rfl, (fun _ => HF.out), (fun h => by cases h), hSn⟩
        by_cases h3 : rest < ac
        · have HF := Lib.hid (show ¬ P from fun h => by have := HA3.out h; omega)
          clear hg HA1 HA2 HA3 HA4 HK1
          generalize Sp.goodV ⟨ak, an, sa⟩ = g at HP HG ⊢
          have hSn : Below W1.heap.size W1 W1.drew := (Below.refl _ W1).drew
          refine wp_region_held_drew (S := (fun u => Below W1.heap.size W1 u)) (by kernel_rfl) ?_ (fun hHeld => ?_)
          · exact hSn
          generalize W1.drew = w9 at hSn ⊢
          refine tkW 0 (some 31) (v := ?_) rfl ?_ ?_
          rotate_left
          · intro u hSu; have hSa := blkCell (blkOld HCB.out hSu); have hSb := blkCell (blkOld HOB.out hSu); clear hSu; go_simp; (try with_reducible rfl)
          try simp only [Act.put, List.setIfInBounds_toArray, List.set_cons_zero, List.set_cons_succ]
          refine tkV 1 (some 32) (v := .agg #[.int .i64 ak, .int .i64 an, .string sa]) rfl (yieldsIf_load_mid (by rfl) 36 (.tmp 31) rfl go 0 (by rfl) [.int .i64 ak, .int .i64 an, .string sa] _ (fun u hu j v hj => by rw [blkCell (blkOld HOB.out hu)]; rcases j with _ | _ | _ | _ | j <;> simp at hj ⊢ <;> exact hj) Try.underlying36 (by kernel_rfl) (by kernel_rfl)) ?_
          try simp only [Act.put, List.setIfInBounds_toArray, List.set_cons_zero, List.set_cons_succ]
          refine rdH 2 (some 33) rfl (fun K hK => ?_)
          go_simp
          (with_reducible refine (HG.out _).mono ?_); rintro e w2 ⟨q, rfl, hq, hb2⟩; obtain rfl := q_true hq HP.out; clear hq; have hSm := joinB hSn hb2; clear hSn hb2; have hSn := hSm; clear hSm
          refine hK.out _ _ ?_ (fun hHeld => ?_)
          · exact hSn
          clear hK K
          try simp only [Act.put, List.setIfInBounds_toArray, List.set_cons_zero, List.set_cons_succ]
          refine tkW 3 (some 34) (v := ?_) rfl ?_ ?_
          rotate_left
          · intro u hSu; have hSa := blkCell (blkOld HCB.out hSu); have hSb := blkCell (blkOld HOB.out hSu); clear hSu; go_simp; (try with_reducible rfl)
          try simp only [Act.put, List.setIfInBounds_toArray, List.set_cons_zero, List.set_cons_succ]
          refine tkW 4 (some 35) (v := ?_) rfl ?_ ?_
          rotate_left
          · intro u hSu; have hSa := blkCell (blkOld HCB.out hSu); have hSb := blkCell (blkOld HOB.out hSu); clear hSu; go_simp; (try with_reducible rfl)
          try simp only [Act.put, List.setIfInBounds_toArray, List.set_cons_zero, List.set_cons_succ]
          refine tkW 5 (some 36) (v := ?_) rfl ?_ ?_
          rotate_left
          · intro u hSu; have hSa := blkCell (blkOld HCB.out hSu); have hSb := blkCell (blkOld HOB.out hSu); clear hSu; go_simp; (try with_reducible rfl)
          try simp only [Act.put, List.setIfInBounds_toArray, List.set_cons_zero, List.set_cons_succ]
          refine tkW 6 (some 37) (v := ?_) rfl ?_ ?_
          rotate_left
          · intro u hSu; have hSa := blkCell (blkOld HCB.out hSu); have hSb := blkCell (blkOld HOB.out hSu); clear hSu; go_simp; (try with_reducible rfl)
          try simp only [Act.put, List.setIfInBounds_toArray, List.set_cons_zero, List.set_cons_succ]
          refine tkW 7 (some 38) (v := ?_) rfl ?_ ?_
          rotate_left
          · intro u hSu; have hSa := blkCell (blkOld HCB.out hSu); have hSb := blkCell (blkOld HOB.out hSu); clear hSu; go_simp; (try with_reducible rfl)
          try simp only [Act.put, List.setIfInBounds_toArray, List.set_cons_zero, List.set_cons_succ]
          refine tkW 8 (some 39) (v := ?_) rfl ?_ ?_
          rotate_left
          · intro u hSu; have hSa := blkCell (blkOld HCB.out hSu); have hSb := blkCell (blkOld HOB.out hSu); clear hSu; go_simp; (try with_reducible rfl)
          try simp only [Act.put, List.setIfInBounds_toArray, List.set_cons_zero, List.set_cons_succ]
          refine tkW 9 (some 40) (v := ?_) rfl ?_ ?_
          rotate_left
          · intro u hSu; have hSa := blkCell (blkOld HCB.out hSu); have hSb := blkCell (blkOld HOB.out hSu); clear hSu; go_simp; (try with_reducible rfl)
          try simp only [Act.put, List.setIfInBounds_toArray, List.set_cons_zero, List.set_cons_succ]
          refine tkW 10 (some 41) (v := ?_) rfl ?_ ?_
          rotate_left
          · intro u hSu; have hSa := blkCell (blkOld HCB.out hSu); have hSb := blkCell (blkOld HOB.out hSu); clear hSu; go_simp; (try with_reducible rfl)
          try simp only [Act.put, List.setIfInBounds_toArray, List.set_cons_zero, List.set_cons_succ]
          refine tkW 11 (some 42) (v := ?_) rfl ?_ ?_
          rotate_left
          · intro u hSu; have hSa := blkCell (blkOld HCB.out hSu); have hSb := blkCell (blkOld HOB.out hSu); clear hSu; go_simp; (try with_reducible rfl)
          try simp only [Act.put, List.setIfInBounds_toArray, List.set_cons_zero, List.set_cons_succ]
          refine tkW 12 (some 43) (v := ?_) rfl ?_ ?_
          rotate_left
          · intro u hSu; have hSa := blkCell (blkOld HCB.out hSu); have hSb := blkCell (blkOld HOB.out hSu); clear hSu; go_simp; (try with_reducible rfl)
          try simp only [Act.put, List.setIfInBounds_toArray, List.set_cons_zero, List.set_cons_succ]
          refine tkW 13 (some 44) (v := ?_) rfl ?_ ?_
          rotate_left
          · intro u hSu; have hSa := blkCell (blkOld HCB.out hSu); have hSb := blkCell (blkOld HOB.out hSu); clear hSu; go_simp; (try with_reducible rfl)
          try simp only [Act.put, List.setIfInBounds_toArray, List.set_cons_zero, List.set_cons_succ]
          refine tkW 14 (some 45) (v := ?_) rfl ?_ ?_
          rotate_left
          · intro u hSu; have hSa := blkCell (blkOld HCB.out hSu); have hSb := blkCell (blkOld HOB.out hSu); clear hSu; go_simp; (try with_reducible rfl)
          try simp only [Act.put, List.setIfInBounds_toArray, List.set_cons_zero, List.set_cons_succ]
          refine tkW 15 (some 46) (v := ?_) rfl ?_ ?_
          rotate_left
          · intro u hSu; have hSa := blkCell (blkOld HCB.out hSu); have hSb := blkCell (blkOld HOB.out hSu); clear hSu; go_simp; (try with_reducible rfl)
          try simp only [Act.put, List.setIfInBounds_toArray, List.set_cons_zero, List.set_cons_succ]
          refine tkO 16 (some 47) rfl ?_
          try simp only [Act.put, List.setIfInBounds_toArray, List.set_cons_zero, List.set_cons_succ]
          refine tkO 17 (some 48) rfl ?_
          try simp only [Act.put, List.setIfInBounds_toArray, List.set_cons_zero, List.set_cons_succ]
          refine tkO 18 (some 49) rfl ?_
          try simp only [Act.put, List.setIfInBounds_toArray, List.set_cons_zero, List.set_cons_succ]
          refine tkO 19 (some 50) rfl ?_
          try simp only [Act.put, List.setIfInBounds_toArray, List.set_cons_zero, List.set_cons_succ]
          refine tkO 20 (some 51) rfl ?_
          try simp only [Act.put, List.setIfInBounds_toArray, List.set_cons_zero, List.set_cons_succ]
          refine tkO 21 (some 52) rfl ?_
          try simp only [Act.put, List.setIfInBounds_toArray, List.set_cons_zero, List.set_cons_succ]
          refine tkO 22 (some 53) rfl ?_
          try simp only [Act.put, List.setIfInBounds_toArray, List.set_cons_zero, List.set_cons_succ]
          refine tkO 23 (some 54) rfl ?_
          try simp only [Act.put, List.setIfInBounds_toArray, List.set_cons_zero, List.set_cons_succ]
          refine tkO 24 (some 55) rfl ?_
          try simp only [Act.put, List.setIfInBounds_toArray, List.set_cons_zero, List.set_cons_succ]
          refine tkO 25 (some 56) rfl ?_
          try simp only [Act.put, List.setIfInBounds_toArray, List.set_cons_zero, List.set_cons_succ]
          refine tkO 26 (some 57) rfl ?_
          try simp only [Act.put, List.setIfInBounds_toArray, List.set_cons_zero, List.set_cons_succ]
          refine tkO 27 (some 58) rfl ?_
          try simp only [Act.put, List.setIfInBounds_toArray, List.set_cons_zero, List.set_cons_succ]
          refine tkO 28 (some 59) rfl ?_
          try simp only [Act.put, List.setIfInBounds_toArray, List.set_cons_zero, List.set_cons_succ]
          refine tkW 29 (some 60) (v := ?_) rfl ?_ ?_
          rotate_left
          · intro u hSu; have hSa := blkCell (blkOld HCB.out hSu); have hSb := blkCell (blkOld HOB.out hSu); clear hSu; go_simp; (try with_reducible rfl)
          try simp only [Act.put, List.setIfInBounds_toArray, List.set_cons_zero, List.set_cons_succ]
          refine wpAnyH_done (by kernel_rfl) ?_ _
          clear hHeld
          go_wp2_with fail
          go_meet
          case rel => exact ⟨true, rfl, (fun _ => HF.out), (fun h => by cases h), hSn⟩
        by_cases h0 : k = 0
        · have HF := Lib.hid (show Sp.goodV ⟨ak, an, sa⟩ ∧ 2 ≤ ac ∧ ac ≤ rest ∧ (∀ h : 0 < k, Sp.ordO (cs[k - 1]'hkm) ⟨⟨ak, an, sa⟩, ac⟩ < 0) from ⟨hg, by omega, by omega, fun h => absurd h (by omega)⟩)
          have h0i : ¬ (0 : Int) < (k : Int) := by omega
          have h0d : decide (0 < k) = false := decide_eq_false (by omega)
          clear hg HA1 HA2 HA3 HA4 HK1 h0
          generalize Sp.goodV ⟨ak, an, sa⟩ = g at HP HG
          have hSn : Below W1.heap.size W1 W1.drew := (Below.refl _ W1).drew
          refine wp_region_held_drew (S := (fun u => Below W1.heap.size W1 u)) (by kernel_rfl) ?_ (fun hHeld => ?_)
          · exact hSn
          generalize W1.drew = w9 at hSn ⊢
          refine tkW 0 (some 31) (v := ?_) rfl ?_ ?_
          rotate_left
          · intro u hSu; have hSa := blkCell (blkOld HCB.out hSu); have hSb := blkCell (blkOld HOB.out hSu); clear hSu; go_simp; (try with_reducible rfl)
          try simp only [Act.put, List.setIfInBounds_toArray, List.set_cons_zero, List.set_cons_succ]
          refine tkV 1 (some 32) (v := .agg #[.int .i64 ak, .int .i64 an, .string sa]) rfl (yieldsIf_load_mid (by rfl) 36 (.tmp 31) rfl go 0 (by rfl) [.int .i64 ak, .int .i64 an, .string sa] _ (fun u hu j v hj => by rw [blkCell (blkOld HOB.out hu)]; rcases j with _ | _ | _ | _ | j <;> simp at hj ⊢ <;> exact hj) Try.underlying36 (by kernel_rfl) (by kernel_rfl)) ?_
          try simp only [Act.put, List.setIfInBounds_toArray, List.set_cons_zero, List.set_cons_succ]
          refine rdH 2 (some 33) rfl (fun K hK => ?_)
          go_simp
          (with_reducible refine (HG.out _).mono ?_); rintro e w2 ⟨q, rfl, hq, hb2⟩; obtain rfl := q_true hq HP.out; clear hq; have hSm := joinB hSn hb2; clear hSn hb2; have hSn := hSm; clear hSm
          refine hK.out _ _ ?_ (fun hHeld => ?_)
          · exact hSn
          clear hK K
          try simp only [Act.put, List.setIfInBounds_toArray, List.set_cons_zero, List.set_cons_succ]
          refine tkW 3 (some 34) (v := ?_) rfl ?_ ?_
          rotate_left
          · intro u hSu; have hSa := blkCell (blkOld HCB.out hSu); have hSb := blkCell (blkOld HOB.out hSu); clear hSu; go_simp; (try with_reducible rfl)
          try simp only [Act.put, List.setIfInBounds_toArray, List.set_cons_zero, List.set_cons_succ]
          refine tkW 4 (some 35) (v := ?_) rfl ?_ ?_
          rotate_left
          · intro u hSu; have hSa := blkCell (blkOld HCB.out hSu); have hSb := blkCell (blkOld HOB.out hSu); clear hSu; go_simp; (try with_reducible rfl)
          try simp only [Act.put, List.setIfInBounds_toArray, List.set_cons_zero, List.set_cons_succ]
          refine tkW 5 (some 36) (v := ?_) rfl ?_ ?_
          rotate_left
          · intro u hSu; have hSa := blkCell (blkOld HCB.out hSu); have hSb := blkCell (blkOld HOB.out hSu); clear hSu; go_simp; (try with_reducible rfl)
          try simp only [Act.put, List.setIfInBounds_toArray, List.set_cons_zero, List.set_cons_succ]
          refine tkW 6 (some 37) (v := ?_) rfl ?_ ?_
          rotate_left
          · intro u hSu; have hSa := blkCell (blkOld HCB.out hSu); have hSb := blkCell (blkOld HOB.out hSu); clear hSu; go_simp; (try with_reducible rfl)
          try simp only [Act.put, List.setIfInBounds_toArray, List.set_cons_zero, List.set_cons_succ]
          refine tkW 7 (some 38) (v := ?_) rfl ?_ ?_
          rotate_left
          · intro u hSu; have hSa := blkCell (blkOld HCB.out hSu); have hSb := blkCell (blkOld HOB.out hSu); clear hSu; go_simp; (try with_reducible rfl)
          try simp only [Act.put, List.setIfInBounds_toArray, List.set_cons_zero, List.set_cons_succ]
          refine tkW 8 (some 39) (v := ?_) rfl ?_ ?_
          rotate_left
          · intro u hSu; have hSa := blkCell (blkOld HCB.out hSu); have hSb := blkCell (blkOld HOB.out hSu); clear hSu; go_simp; (try with_reducible rfl)
          try simp only [Act.put, List.setIfInBounds_toArray, List.set_cons_zero, List.set_cons_succ]
          refine tkW 9 (some 40) (v := ?_) rfl ?_ ?_
          rotate_left
          · intro u hSu; have hSa := blkCell (blkOld HCB.out hSu); have hSb := blkCell (blkOld HOB.out hSu); clear hSu; go_simp; (try with_reducible rfl)
          try simp only [Act.put, List.setIfInBounds_toArray, List.set_cons_zero, List.set_cons_succ]
          refine tkW 10 (some 41) (v := ?_) rfl ?_ ?_
          rotate_left
          · intro u hSu; have hSa := blkCell (blkOld HCB.out hSu); have hSb := blkCell (blkOld HOB.out hSu); clear hSu; go_simp; (try with_reducible rfl)
          try simp only [Act.put, List.setIfInBounds_toArray, List.set_cons_zero, List.set_cons_succ]
          refine tkW 11 (some 42) (v := ?_) rfl ?_ ?_
          rotate_left
          · intro u hSu; have hSa := blkCell (blkOld HCB.out hSu); have hSb := blkCell (blkOld HOB.out hSu); clear hSu; go_simp; (try with_reducible rfl)
          try simp only [Act.put, List.setIfInBounds_toArray, List.set_cons_zero, List.set_cons_succ]
          refine tkW 12 (some 43) (v := ?_) rfl ?_ ?_
          rotate_left
          · intro u hSu; have hSa := blkCell (blkOld HCB.out hSu); have hSb := blkCell (blkOld HOB.out hSu); clear hSu; go_simp; (try with_reducible rfl)
          try simp only [Act.put, List.setIfInBounds_toArray, List.set_cons_zero, List.set_cons_succ]
          refine tkW 13 (some 44) (v := ?_) rfl ?_ ?_
          rotate_left
          · intro u hSu; have hSa := blkCell (blkOld HCB.out hSu); have hSb := blkCell (blkOld HOB.out hSu); clear hSu; go_simp; (try with_reducible rfl)
          try simp only [Act.put, List.setIfInBounds_toArray, List.set_cons_zero, List.set_cons_succ]
          refine tkW 14 (some 45) (v := ?_) rfl ?_ ?_
          rotate_left
          · intro u hSu; have hSa := blkCell (blkOld HCB.out hSu); have hSb := blkCell (blkOld HOB.out hSu); clear hSu; go_simp; (try with_reducible rfl)
          try simp only [Act.put, List.setIfInBounds_toArray, List.set_cons_zero, List.set_cons_succ]
          refine tkW 15 (some 46) (v := ?_) rfl ?_ ?_
          rotate_left
          · intro u hSu; have hSa := blkCell (blkOld HCB.out hSu); have hSb := blkCell (blkOld HOB.out hSu); clear hSu; go_simp; (try with_reducible rfl)
          try simp only [Act.put, List.setIfInBounds_toArray, List.set_cons_zero, List.set_cons_succ]
          refine tkW 16 (some 47) (v := ?_) rfl ?_ ?_
          rotate_left
          · intro u hSu; have hSa := blkCell (blkOld HCB.out hSu); have hSb := blkCell (blkOld HOB.out hSu); clear hSu; go_simp; (try with_reducible rfl)
          try simp only [Act.put, List.setIfInBounds_toArray, List.set_cons_zero, List.set_cons_succ]
          refine tkW 17 (some 48) (v := ?_) rfl ?_ ?_
          rotate_left
          · intro u hSu; have hSa := blkCell (blkOld HCB.out hSu); have hSb := blkCell (blkOld HOB.out hSu); clear hSu; go_simp; (try with_reducible rfl)
          try simp only [Act.put, List.setIfInBounds_toArray, List.set_cons_zero, List.set_cons_succ]
          refine tkW 18 (some 49) (v := ?_) rfl ?_ ?_
          rotate_left
          · intro u hSu; have hSa := blkCell (blkOld HCB.out hSu); have hSb := blkCell (blkOld HOB.out hSu); clear hSu; go_simp; (try with_reducible rfl)
          try simp only [Act.put, List.setIfInBounds_toArray, List.set_cons_zero, List.set_cons_succ]
          refine tkO 19 (some 50) rfl ?_
          try simp only [Act.put, List.setIfInBounds_toArray, List.set_cons_zero, List.set_cons_succ]
          refine tkO 20 (some 51) rfl ?_
          try simp only [Act.put, List.setIfInBounds_toArray, List.set_cons_zero, List.set_cons_succ]
          refine tkO 21 (some 52) rfl ?_
          try simp only [Act.put, List.setIfInBounds_toArray, List.set_cons_zero, List.set_cons_succ]
          refine tkO 22 (some 53) rfl ?_
          try simp only [Act.put, List.setIfInBounds_toArray, List.set_cons_zero, List.set_cons_succ]
          refine tkO 23 (some 54) rfl ?_
          try simp only [Act.put, List.setIfInBounds_toArray, List.set_cons_zero, List.set_cons_succ]
          refine tkO 24 (some 55) rfl ?_
          try simp only [Act.put, List.setIfInBounds_toArray, List.set_cons_zero, List.set_cons_succ]
          refine tkO 25 (some 56) rfl ?_
          try simp only [Act.put, List.setIfInBounds_toArray, List.set_cons_zero, List.set_cons_succ]
          refine tkO 26 (some 57) rfl ?_
          try simp only [Act.put, List.setIfInBounds_toArray, List.set_cons_zero, List.set_cons_succ]
          refine tkO 27 (some 58) rfl ?_
          try simp only [Act.put, List.setIfInBounds_toArray, List.set_cons_zero, List.set_cons_succ]
          refine tkW 28 (some 59) (v := ?_) rfl ?_ ?_
          rotate_left
          · intro u hSu; have hSa := blkCell (blkOld HCB.out hSu); have hSb := blkCell (blkOld HOB.out hSu); clear hSu; go_simp; (try with_reducible rfl)
          try simp only [Act.put, List.setIfInBounds_toArray, List.set_cons_zero, List.set_cons_succ]
          refine tkW 29 (some 60) (v := ?_) rfl ?_ ?_
          rotate_left
          · intro u hSu; have hSa := blkCell (blkOld HCB.out hSu); have hSb := blkCell (blkOld HOB.out hSu); clear hSu; go_simp; (try with_reducible rfl)
          try simp only [Act.put, List.setIfInBounds_toArray, List.set_cons_zero, List.set_cons_succ]
          refine wpAnyH_done (by kernel_rfl) ?_ _
          clear hHeld
          go_wp2_with fail
          go_meet
          case rel => exact ⟨false, rfl, (fun h => by cases h), (fun _ => HF.out), hSn⟩
        have hkp : 0 < k := by omega
        obtain ⟨y, hy, hyr⟩ := HK1.out hkp
        have HAHD := Lib.hid (fun W => ahead_any y ⟨⟨ak, an, sa⟩, ac⟩ W)
        have HUP := Lib.hid (show P → Sp.ordO y ⟨⟨ak, an, sa⟩, ac⟩ < 0 from fun h => by rw [hy]; exact HA4.out h hkp)
        have HUQ := Lib.hid (show Sp.ordO y ⟨⟨ak, an, sa⟩, ac⟩ < 0 → Sp.goodV ⟨ak, an, sa⟩ ∧ 2 ≤ ac ∧ ac ≤ rest ∧ (∀ h : 0 < k, Sp.ordO (cs[k - 1]'hkm) ⟨⟨ak, an, sa⟩, ac⟩ < 0) from fun h => ⟨hg, by omega, by omega, fun _ => by rw [← hy]; exact h⟩)
        generalize Sp.ordO y ⟨⟨ak, an, sa⟩, ac⟩ = o at HAHD HUP HUQ
        clear hy
        obtain ⟨⟨bk, bn, sb⟩, bc⟩ := y
        have HYR := Lib.hid (show ∀ u, Below W1.heap.size W1 u → u.rangeAt b (off + (k - 1) * 4) [.int .i64 bk, .int .i64 bn, .string sb, .int .i64 bc] from fun u hu => hyr u (joinB HBW.out hu))
        clear hyr
        dsimp only [oftA] at HAHD
        have h0i : (0 : Int) < (k : Int) := by omega
        have h0d : decide (0 < k) = true := decide_eq_true hkp
        have hw1 : IntKind.i64.wrap ((k : Int) - 1) = ((k - 1 : Nat) : Int) := by rw [show (k : Int) - 1 = ((k - 1 : Nat) : Int) by omega]; exact IntWalk.i64_in _ (by omega)
        have hw2 : (0 : Int) ≤ ((k - 1 : Nat) : Int) := by omega
        have hw3 : ((k - 1 : Nat) : Int) < (cs.length : Int) := by omega
        obtain ⟨m, hm⟩ : ∃ m, m = k - 1 := ⟨_, rfl⟩
        rw [← hm] at hw1 hw2 hw3 HYR
        clear hm hg HA1 HA2 HA3 HA4 HK1 hkp h0
        by_cases ho : o < 0
        · have HF := Lib.hid (HUQ.out ho)
          have ho2 : ¬ 0 ≤ o := by omega
          clear HUP HUQ
          generalize Sp.goodV ⟨ak, an, sa⟩ = g at HP HG
          have hSn : Below W1.heap.size W1 W1.drew := (Below.refl _ W1).drew
          refine wp_region_held_drew (S := (fun u => Below W1.heap.size W1 u)) (by kernel_rfl) ?_ (fun hHeld => ?_)
          · exact hSn
          generalize W1.drew = w9 at hSn ⊢
          refine tkW 0 (some 31) (v := ?_) rfl ?_ ?_
          rotate_left
          · intro u hSu; have hSa := blkCell (blkOld HCB.out hSu); have hSb := blkCell (blkOld HOB.out hSu); clear hSu; go_simp; (try with_reducible rfl)
          try simp only [Act.put, List.setIfInBounds_toArray, List.set_cons_zero, List.set_cons_succ]
          refine tkV 1 (some 32) (v := .agg #[.int .i64 ak, .int .i64 an, .string sa]) rfl (yieldsIf_load_mid (by rfl) 36 (.tmp 31) rfl go 0 (by rfl) [.int .i64 ak, .int .i64 an, .string sa] _ (fun u hu j v hj => by rw [blkCell (blkOld HOB.out hu)]; rcases j with _ | _ | _ | _ | j <;> simp at hj ⊢ <;> exact hj) Try.underlying36 (by kernel_rfl) (by kernel_rfl)) ?_
          try simp only [Act.put, List.setIfInBounds_toArray, List.set_cons_zero, List.set_cons_succ]
          refine rdH 2 (some 33) rfl (fun K hK => ?_)
          go_simp
          (with_reducible refine (HG.out _).mono ?_); rintro e w2 ⟨q, rfl, hq, hb2⟩; obtain rfl := q_true hq HP.out; clear hq; have hSm := joinB hSn hb2; clear hSn hb2; have hSn := hSm; clear hSm
          refine hK.out _ _ ?_ (fun hHeld => ?_)
          · exact hSn
          clear hK K
          try simp only [Act.put, List.setIfInBounds_toArray, List.set_cons_zero, List.set_cons_succ]
          refine tkW 3 (some 34) (v := ?_) rfl ?_ ?_
          rotate_left
          · intro u hSu; have hSa := blkCell (blkOld HCB.out hSu); have hSb := blkCell (blkOld HOB.out hSu); clear hSu; go_simp; (try with_reducible rfl)
          try simp only [Act.put, List.setIfInBounds_toArray, List.set_cons_zero, List.set_cons_succ]
          refine tkW 4 (some 35) (v := ?_) rfl ?_ ?_
          rotate_left
          · intro u hSu; have hSa := blkCell (blkOld HCB.out hSu); have hSb := blkCell (blkOld HOB.out hSu); clear hSu; go_simp; (try with_reducible rfl)
          try simp only [Act.put, List.setIfInBounds_toArray, List.set_cons_zero, List.set_cons_succ]
          refine tkW 5 (some 36) (v := ?_) rfl ?_ ?_
          rotate_left
          · intro u hSu; have hSa := blkCell (blkOld HCB.out hSu); have hSb := blkCell (blkOld HOB.out hSu); clear hSu; go_simp; (try with_reducible rfl)
          try simp only [Act.put, List.setIfInBounds_toArray, List.set_cons_zero, List.set_cons_succ]
          refine tkW 6 (some 37) (v := ?_) rfl ?_ ?_
          rotate_left
          · intro u hSu; have hSa := blkCell (blkOld HCB.out hSu); have hSb := blkCell (blkOld HOB.out hSu); clear hSu; go_simp; (try with_reducible rfl)
          try simp only [Act.put, List.setIfInBounds_toArray, List.set_cons_zero, List.set_cons_succ]
          refine tkW 7 (some 38) (v := ?_) rfl ?_ ?_
          rotate_left
          · intro u hSu; have hSa := blkCell (blkOld HCB.out hSu); have hSb := blkCell (blkOld HOB.out hSu); clear hSu; go_simp; (try with_reducible rfl)
          try simp only [Act.put, List.setIfInBounds_toArray, List.set_cons_zero, List.set_cons_succ]
          refine tkW 8 (some 39) (v := ?_) rfl ?_ ?_
          rotate_left
          · intro u hSu; have hSa := blkCell (blkOld HCB.out hSu); have hSb := blkCell (blkOld HOB.out hSu); clear hSu; go_simp; (try with_reducible rfl)
          try simp only [Act.put, List.setIfInBounds_toArray, List.set_cons_zero, List.set_cons_succ]
          refine tkW 9 (some 40) (v := ?_) rfl ?_ ?_
          rotate_left
          · intro u hSu; have hSa := blkCell (blkOld HCB.out hSu); have hSb := blkCell (blkOld HOB.out hSu); clear hSu; go_simp; (try with_reducible rfl)
          try simp only [Act.put, List.setIfInBounds_toArray, List.set_cons_zero, List.set_cons_succ]
          refine tkW 10 (some 41) (v := ?_) rfl ?_ ?_
          rotate_left
          · intro u hSu; have hSa := blkCell (blkOld HCB.out hSu); have hSb := blkCell (blkOld HOB.out hSu); clear hSu; go_simp; (try with_reducible rfl)
          try simp only [Act.put, List.setIfInBounds_toArray, List.set_cons_zero, List.set_cons_succ]
          refine tkW 11 (some 42) (v := ?_) rfl ?_ ?_
          rotate_left
          · intro u hSu; have hSa := blkCell (blkOld HCB.out hSu); have hSb := blkCell (blkOld HOB.out hSu); clear hSu; go_simp; (try with_reducible rfl)
          try simp only [Act.put, List.setIfInBounds_toArray, List.set_cons_zero, List.set_cons_succ]
          refine tkW 12 (some 43) (v := ?_) rfl ?_ ?_
          rotate_left
          · intro u hSu; have hSa := blkCell (blkOld HCB.out hSu); have hSb := blkCell (blkOld HOB.out hSu); clear hSu; go_simp; (try with_reducible rfl)
          try simp only [Act.put, List.setIfInBounds_toArray, List.set_cons_zero, List.set_cons_succ]
          refine tkW 13 (some 44) (v := ?_) rfl ?_ ?_
          rotate_left
          · intro u hSu; have hSa := blkCell (blkOld HCB.out hSu); have hSb := blkCell (blkOld HOB.out hSu); clear hSu; go_simp; (try with_reducible rfl)
          try simp only [Act.put, List.setIfInBounds_toArray, List.set_cons_zero, List.set_cons_succ]
          refine tkW 14 (some 45) (v := ?_) rfl ?_ ?_
          rotate_left
          · intro u hSu; have hSa := blkCell (blkOld HCB.out hSu); have hSb := blkCell (blkOld HOB.out hSu); clear hSu; go_simp; (try with_reducible rfl)
          try simp only [Act.put, List.setIfInBounds_toArray, List.set_cons_zero, List.set_cons_succ]
          refine tkW 15 (some 46) (v := ?_) rfl ?_ ?_
          rotate_left
          · intro u hSu; have hSa := blkCell (blkOld HCB.out hSu); have hSb := blkCell (blkOld HOB.out hSu); clear hSu; go_simp; (try with_reducible rfl)
          try simp only [Act.put, List.setIfInBounds_toArray, List.set_cons_zero, List.set_cons_succ]
          refine tkW 16 (some 47) (v := ?_) rfl ?_ ?_
          rotate_left
          · intro u hSu; have hSa := blkCell (blkOld HCB.out hSu); have hSb := blkCell (blkOld HOB.out hSu); clear hSu; go_simp; (try with_reducible rfl)
          try simp only [Act.put, List.setIfInBounds_toArray, List.set_cons_zero, List.set_cons_succ]
          refine tkW 17 (some 48) (v := ?_) rfl ?_ ?_
          rotate_left
          · intro u hSu; have hSa := blkCell (blkOld HCB.out hSu); have hSb := blkCell (blkOld HOB.out hSu); clear hSu; go_simp; (try with_reducible rfl)
          try simp only [Act.put, List.setIfInBounds_toArray, List.set_cons_zero, List.set_cons_succ]
          refine tkW 18 (some 49) (v := ?_) rfl ?_ ?_
          rotate_left
          · intro u hSu; have hSa := blkCell (blkOld HCB.out hSu); have hSb := blkCell (blkOld HOB.out hSu); clear hSu; go_simp; (try with_reducible rfl)
          try simp only [Act.put, List.setIfInBounds_toArray, List.set_cons_zero, List.set_cons_succ]
          refine tkW 19 (some 50) (v := ?_) rfl ?_ ?_
          rotate_left
          · intro u hSu; have hSa := blkCell (blkOld HCB.out hSu); have hSb := blkCell (blkOld HOB.out hSu); clear hSu; go_simp; (try with_reducible rfl)
          try simp only [Act.put, List.setIfInBounds_toArray, List.set_cons_zero, List.set_cons_succ]
          refine tkW 20 (some 51) (v := ?_) rfl ?_ ?_
          rotate_left
          · intro u hSu; have hSa := blkCell (blkOld HCB.out hSu); have hSb := blkCell (blkOld HOB.out hSu); clear hSu; go_simp; (try with_reducible rfl)
          try simp only [Act.put, List.setIfInBounds_toArray, List.set_cons_zero, List.set_cons_succ]
          refine tkW 21 (some 52) (v := ?_) rfl ?_ ?_
          rotate_left
          · intro u hSu; have hSa := blkCell (blkOld HCB.out hSu); have hSb := blkCell (blkOld HOB.out hSu); clear hSu; go_simp; (try with_reducible rfl)
          try simp only [Act.put, List.setIfInBounds_toArray, List.set_cons_zero, List.set_cons_succ]
          refine tkW 22 (some 53) (v := ?_) rfl ?_ ?_
          rotate_left
          · intro u hSu; have hSa := blkCell (blkOld HCB.out hSu); have hSb := blkCell (blkOld HOB.out hSu); clear hSu; go_simp; (try with_reducible rfl)
          try simp only [Act.put, List.setIfInBounds_toArray, List.set_cons_zero, List.set_cons_succ]
          refine tkW 23 (some 54) (v := ?_) rfl ?_ ?_
          rotate_left
          · intro u hSu; have hSa := blkCell (blkOld HCB.out hSu); have hSb := blkCell (blkOld HOB.out hSu); clear hSu; go_simp; (try with_reducible rfl)
          try simp only [Act.put, List.setIfInBounds_toArray, List.set_cons_zero, List.set_cons_succ]
          refine tkV 24 (some 55) (v := .agg #[.int .i64 bk, .int .i64 bn, .string sb, .int .i64 bc]) rfl (yieldsIf_load_mid (by rfl) 48 (.tmp 54) rfl b (off + m * 4) (by rfl) [.int .i64 bk, .int .i64 bn, .string sb, .int .i64 bc] _ HYR.out Try.underlying48 (by kernel_rfl) (by kernel_rfl)) ?_
          try simp only [Act.put, List.setIfInBounds_toArray, List.set_cons_zero, List.set_cons_succ]
          refine tkV 25 (some 56) (v := .agg #[.int .i64 ak, .int .i64 an, .string sa, .int .i64 ac]) rfl (yieldsIf_load_mid (by rfl) 48 (.tmp 7) rfl go 0 (by rfl) #[.int .i64 ak, .int .i64 an, .string sa, .int .i64 ac].toList _ (fun u hu => (by intro j v hj; rw [Nat.zero_add, blkCell (blkOld HOB.out hu)]; simpa using hj)) Try.underlying48 (by kernel_rfl) (by kernel_rfl)) ?_
          try simp only [Act.put, List.setIfInBounds_toArray, List.set_cons_zero, List.set_cons_succ]
          refine rdH 26 (some 57) rfl (fun K hK => ?_)
          go_simp
          (with_reducible refine (HAHD.out _).mono ?_); rintro e w3 ⟨rfl, hg3⟩; have hSm := joinB hSn hg3.below; clear hSn hg3; have hSn := hSm; clear hSm
          refine hK.out _ _ ?_ (fun hHeld => ?_)
          · exact hSn
          clear hK K
          try simp only [Act.put, List.setIfInBounds_toArray, List.set_cons_zero, List.set_cons_succ]
          refine tkW 27 (some 58) (v := ?_) rfl ?_ ?_
          rotate_left
          · intro u hSu; have hSa := blkCell (blkOld HCB.out hSu); have hSb := blkCell (blkOld HOB.out hSu); clear hSu; go_simp; (try with_reducible rfl)
          try simp only [Act.put, List.setIfInBounds_toArray, List.set_cons_zero, List.set_cons_succ]
          refine tkW 28 (some 59) (v := ?_) rfl ?_ ?_
          rotate_left
          · intro u hSu; have hSa := blkCell (blkOld HCB.out hSu); have hSb := blkCell (blkOld HOB.out hSu); clear hSu; go_simp; (try with_reducible rfl)
          try simp only [Act.put, List.setIfInBounds_toArray, List.set_cons_zero, List.set_cons_succ]
          refine tkW 29 (some 60) (v := ?_) rfl ?_ ?_
          rotate_left
          · intro u hSu; have hSa := blkCell (blkOld HCB.out hSu); have hSb := blkCell (blkOld HOB.out hSu); clear hSu; go_simp; (try with_reducible rfl)
          try simp only [Act.put, List.setIfInBounds_toArray, List.set_cons_zero, List.set_cons_succ]
          refine wpAnyH_done (by kernel_rfl) ?_ _
          clear hHeld
          go_wp2_with fail
          go_meet
          case rel => exact ⟨false, rfl, (fun h => by cases h), (fun _ => HF.out), hSn⟩
        · have HF := Lib.hid (show ¬ P from fun h => ho (HUP.out h))
          have ho2 : 0 ≤ o := by omega
          clear HUP HUQ
          generalize Sp.goodV ⟨ak, an, sa⟩ = g at HP HG ⊢
          have hSn : Below W1.heap.size W1 W1.drew := (Below.refl _ W1).drew
          refine wp_region_held_drew (S := (fun u => Below W1.heap.size W1 u)) (by kernel_rfl) ?_ (fun hHeld => ?_)
          · exact hSn
          generalize W1.drew = w9 at hSn ⊢
          refine tkW 0 (some 31) (v := ?_) rfl ?_ ?_
          rotate_left
          · intro u hSu; have hSa := blkCell (blkOld HCB.out hSu); have hSb := blkCell (blkOld HOB.out hSu); clear hSu; go_simp; (try with_reducible rfl)
          try simp only [Act.put, List.setIfInBounds_toArray, List.set_cons_zero, List.set_cons_succ]
          refine tkV 1 (some 32) (v := .agg #[.int .i64 ak, .int .i64 an, .string sa]) rfl (yieldsIf_load_mid (by rfl) 36 (.tmp 31) rfl go 0 (by rfl) [.int .i64 ak, .int .i64 an, .string sa] _ (fun u hu j v hj => by rw [blkCell (blkOld HOB.out hu)]; rcases j with _ | _ | _ | _ | j <;> simp at hj ⊢ <;> exact hj) Try.underlying36 (by kernel_rfl) (by kernel_rfl)) ?_
          try simp only [Act.put, List.setIfInBounds_toArray, List.set_cons_zero, List.set_cons_succ]
          refine rdH 2 (some 33) rfl (fun K hK => ?_)
          go_simp
          (with_reducible refine (HG.out _).mono ?_); rintro e w2 ⟨q, rfl, hq, hb2⟩; obtain rfl := q_true hq HP.out; clear hq; have hSm := joinB hSn hb2; clear hSn hb2; have hSn := hSm; clear hSm
          refine hK.out _ _ ?_ (fun hHeld => ?_)
          · exact hSn
          clear hK K
          try simp only [Act.put, List.setIfInBounds_toArray, List.set_cons_zero, List.set_cons_succ]
          refine tkW 3 (some 34) (v := ?_) rfl ?_ ?_
          rotate_left
          · intro u hSu; have hSa := blkCell (blkOld HCB.out hSu); have hSb := blkCell (blkOld HOB.out hSu); clear hSu; go_simp; (try with_reducible rfl)
          try simp only [Act.put, List.setIfInBounds_toArray, List.set_cons_zero, List.set_cons_succ]
          refine tkW 4 (some 35) (v := ?_) rfl ?_ ?_
          rotate_left
          · intro u hSu; have hSa := blkCell (blkOld HCB.out hSu); have hSb := blkCell (blkOld HOB.out hSu); clear hSu; go_simp; (try with_reducible rfl)
          try simp only [Act.put, List.setIfInBounds_toArray, List.set_cons_zero, List.set_cons_succ]
          refine tkW 5 (some 36) (v := ?_) rfl ?_ ?_
          rotate_left
          · intro u hSu; have hSa := blkCell (blkOld HCB.out hSu); have hSb := blkCell (blkOld HOB.out hSu); clear hSu; go_simp; (try with_reducible rfl)
          try simp only [Act.put, List.setIfInBounds_toArray, List.set_cons_zero, List.set_cons_succ]
          refine tkW 6 (some 37) (v := ?_) rfl ?_ ?_
          rotate_left
          · intro u hSu; have hSa := blkCell (blkOld HCB.out hSu); have hSb := blkCell (blkOld HOB.out hSu); clear hSu; go_simp; (try with_reducible rfl)
          try simp only [Act.put, List.setIfInBounds_toArray, List.set_cons_zero, List.set_cons_succ]
          refine tkW 7 (some 38) (v := ?_) rfl ?_ ?_
          rotate_left
          · intro u hSu; have hSa := blkCell (blkOld HCB.out hSu); have hSb := blkCell (blkOld HOB.out hSu); clear hSu; go_simp; (try with_reducible rfl)
          try simp only [Act.put, List.setIfInBounds_toArray, List.set_cons_zero, List.set_cons_succ]
          refine tkW 8 (some 39) (v := ?_) rfl ?_ ?_
          rotate_left
          · intro u hSu; have hSa := blkCell (blkOld HCB.out hSu); have hSb := blkCell (blkOld HOB.out hSu); clear hSu; go_simp; (try with_reducible rfl)
          try simp only [Act.put, List.setIfInBounds_toArray, List.set_cons_zero, List.set_cons_succ]
          refine tkW 9 (some 40) (v := ?_) rfl ?_ ?_
          rotate_left
          · intro u hSu; have hSa := blkCell (blkOld HCB.out hSu); have hSb := blkCell (blkOld HOB.out hSu); clear hSu; go_simp; (try with_reducible rfl)
          try simp only [Act.put, List.setIfInBounds_toArray, List.set_cons_zero, List.set_cons_succ]
          refine tkW 10 (some 41) (v := ?_) rfl ?_ ?_
          rotate_left
          · intro u hSu; have hSa := blkCell (blkOld HCB.out hSu); have hSb := blkCell (blkOld HOB.out hSu); clear hSu; go_simp; (try with_reducible rfl)
          try simp only [Act.put, List.setIfInBounds_toArray, List.set_cons_zero, List.set_cons_succ]
          refine tkW 11 (some 42) (v := ?_) rfl ?_ ?_
          rotate_left
          · intro u hSu; have hSa := blkCell (blkOld HCB.out hSu); have hSb := blkCell (blkOld HOB.out hSu); clear hSu; go_simp; (try with_reducible rfl)
          try simp only [Act.put, List.setIfInBounds_toArray, List.set_cons_zero, List.set_cons_succ]
          refine tkW 12 (some 43) (v := ?_) rfl ?_ ?_
          rotate_left
          · intro u hSu; have hSa := blkCell (blkOld HCB.out hSu); have hSb := blkCell (blkOld HOB.out hSu); clear hSu; go_simp; (try with_reducible rfl)
          try simp only [Act.put, List.setIfInBounds_toArray, List.set_cons_zero, List.set_cons_succ]
          refine tkW 13 (some 44) (v := ?_) rfl ?_ ?_
          rotate_left
          · intro u hSu; have hSa := blkCell (blkOld HCB.out hSu); have hSb := blkCell (blkOld HOB.out hSu); clear hSu; go_simp; (try with_reducible rfl)
          try simp only [Act.put, List.setIfInBounds_toArray, List.set_cons_zero, List.set_cons_succ]
          refine tkW 14 (some 45) (v := ?_) rfl ?_ ?_
          rotate_left
          · intro u hSu; have hSa := blkCell (blkOld HCB.out hSu); have hSb := blkCell (blkOld HOB.out hSu); clear hSu; go_simp; (try with_reducible rfl)
          try simp only [Act.put, List.setIfInBounds_toArray, List.set_cons_zero, List.set_cons_succ]
          refine tkW 15 (some 46) (v := ?_) rfl ?_ ?_
          rotate_left
          · intro u hSu; have hSa := blkCell (blkOld HCB.out hSu); have hSb := blkCell (blkOld HOB.out hSu); clear hSu; go_simp; (try with_reducible rfl)
          try simp only [Act.put, List.setIfInBounds_toArray, List.set_cons_zero, List.set_cons_succ]
          refine tkW 16 (some 47) (v := ?_) rfl ?_ ?_
          rotate_left
          · intro u hSu; have hSa := blkCell (blkOld HCB.out hSu); have hSb := blkCell (blkOld HOB.out hSu); clear hSu; go_simp; (try with_reducible rfl)
          try simp only [Act.put, List.setIfInBounds_toArray, List.set_cons_zero, List.set_cons_succ]
          refine tkW 17 (some 48) (v := ?_) rfl ?_ ?_
          rotate_left
          · intro u hSu; have hSa := blkCell (blkOld HCB.out hSu); have hSb := blkCell (blkOld HOB.out hSu); clear hSu; go_simp; (try with_reducible rfl)
          try simp only [Act.put, List.setIfInBounds_toArray, List.set_cons_zero, List.set_cons_succ]
          refine tkW 18 (some 49) (v := ?_) rfl ?_ ?_
          rotate_left
          · intro u hSu; have hSa := blkCell (blkOld HCB.out hSu); have hSb := blkCell (blkOld HOB.out hSu); clear hSu; go_simp; (try with_reducible rfl)
          try simp only [Act.put, List.setIfInBounds_toArray, List.set_cons_zero, List.set_cons_succ]
          refine tkW 19 (some 50) (v := ?_) rfl ?_ ?_
          rotate_left
          · intro u hSu; have hSa := blkCell (blkOld HCB.out hSu); have hSb := blkCell (blkOld HOB.out hSu); clear hSu; go_simp; (try with_reducible rfl)
          try simp only [Act.put, List.setIfInBounds_toArray, List.set_cons_zero, List.set_cons_succ]
          refine tkW 20 (some 51) (v := ?_) rfl ?_ ?_
          rotate_left
          · intro u hSu; have hSa := blkCell (blkOld HCB.out hSu); have hSb := blkCell (blkOld HOB.out hSu); clear hSu; go_simp; (try with_reducible rfl)
          try simp only [Act.put, List.setIfInBounds_toArray, List.set_cons_zero, List.set_cons_succ]
          refine tkW 21 (some 52) (v := ?_) rfl ?_ ?_
          rotate_left
          · intro u hSu; have hSa := blkCell (blkOld HCB.out hSu); have hSb := blkCell (blkOld HOB.out hSu); clear hSu; go_simp; (try with_reducible rfl)
          try simp only [Act.put, List.setIfInBounds_toArray, List.set_cons_zero, List.set_cons_succ]
          refine tkW 22 (some 53) (v := ?_) rfl ?_ ?_
          rotate_left
          · intro u hSu; have hSa := blkCell (blkOld HCB.out hSu); have hSb := blkCell (blkOld HOB.out hSu); clear hSu; go_simp; (try with_reducible rfl)
          try simp only [Act.put, List.setIfInBounds_toArray, List.set_cons_zero, List.set_cons_succ]
          refine tkW 23 (some 54) (v := ?_) rfl ?_ ?_
          rotate_left
          · intro u hSu; have hSa := blkCell (blkOld HCB.out hSu); have hSb := blkCell (blkOld HOB.out hSu); clear hSu; go_simp; (try with_reducible rfl)
          try simp only [Act.put, List.setIfInBounds_toArray, List.set_cons_zero, List.set_cons_succ]
          refine tkV 24 (some 55) (v := .agg #[.int .i64 bk, .int .i64 bn, .string sb, .int .i64 bc]) rfl (yieldsIf_load_mid (by rfl) 48 (.tmp 54) rfl b (off + m * 4) (by rfl) [.int .i64 bk, .int .i64 bn, .string sb, .int .i64 bc] _ HYR.out Try.underlying48 (by kernel_rfl) (by kernel_rfl)) ?_
          try simp only [Act.put, List.setIfInBounds_toArray, List.set_cons_zero, List.set_cons_succ]
          refine tkV 25 (some 56) (v := .agg #[.int .i64 ak, .int .i64 an, .string sa, .int .i64 ac]) rfl (yieldsIf_load_mid (by rfl) 48 (.tmp 7) rfl go 0 (by rfl) #[.int .i64 ak, .int .i64 an, .string sa, .int .i64 ac].toList _ (fun u hu => (by intro j v hj; rw [Nat.zero_add, blkCell (blkOld HOB.out hu)]; simpa using hj)) Try.underlying48 (by kernel_rfl) (by kernel_rfl)) ?_
          try simp only [Act.put, List.setIfInBounds_toArray, List.set_cons_zero, List.set_cons_succ]
          refine rdH 26 (some 57) rfl (fun K hK => ?_)
          go_simp
          (with_reducible refine (HAHD.out _).mono ?_); rintro e w3 ⟨rfl, hg3⟩; have hSm := joinB hSn hg3.below; clear hSn hg3; have hSn := hSm; clear hSm
          refine hK.out _ _ ?_ (fun hHeld => ?_)
          · exact hSn
          clear hK K
          try simp only [Act.put, List.setIfInBounds_toArray, List.set_cons_zero, List.set_cons_succ]
          refine tkW 27 (some 58) (v := ?_) rfl ?_ ?_
          rotate_left
          · intro u hSu; have hSa := blkCell (blkOld HCB.out hSu); have hSb := blkCell (blkOld HOB.out hSu); clear hSu; go_simp; (try with_reducible rfl)
          try simp only [Act.put, List.setIfInBounds_toArray, List.set_cons_zero, List.set_cons_succ]
          refine tkW 28 (some 59) (v := ?_) rfl ?_ ?_
          rotate_left
          · intro u hSu; have hSa := blkCell (blkOld HCB.out hSu); have hSb := blkCell (blkOld HOB.out hSu); clear hSu; go_simp; (try with_reducible rfl)
          try simp only [Act.put, List.setIfInBounds_toArray, List.set_cons_zero, List.set_cons_succ]
          refine tkW 29 (some 60) (v := ?_) rfl ?_ ?_
          rotate_left
          · intro u hSu; have hSa := blkCell (blkOld HCB.out hSu); have hSb := blkCell (blkOld HOB.out hSu); clear hSu; go_simp; (try with_reducible rfl)
          try simp only [Act.put, List.setIfInBounds_toArray, List.set_cons_zero, List.set_cons_succ]
          refine wpAnyH_done (by kernel_rfl) ?_ _
          clear hHeld
          go_wp2_with fail
          go_meet
          case rel => exact ⟨true, rfl, (fun _ => HF.out), (fun h => by cases h), hSn⟩
      case rest =>
        obtain ⟨t, rfl, ht1, ht2, hbc⟩ := hcut
        obtain ⟨w5, rfl⟩ : ∃ wm : World, wm = wc := ⟨_, rfl⟩
        have HB5 := Lib.hid (joinB HBW.out hbc)
        have HCB5 := Lib.hid (blkOld HCB.out hbc)
        have HOB5 := Lib.hid (blkOld HOB.out hbc)
        have HZ5 := Lib.hid (HX.out.step (joinB HBW.out hbc))
        clear hbc HCB HOB HG HA1 HA2 HA3 HA4 HK1
        cases t with
        | true =>
          have HF := Lib.hid (HN.out (ht1 rfl) _ HZ5.out.below)
          clear ht1 ht2 HDEF HA5 HMK HST HKJ HA
          go_wp2_with fail
          exact HF.out _ (by simp)
        | false =>
          obtain ⟨hg, h2, h3, hup⟩ := ht2 rfl
          have HMK2 := Lib.hid (HMK.out hg h2 h3 hup)
          clear ht1 ht2 hg hup HMK
          have hc5 := blkCell HCB5.out
          have hkcc : (k : Int) ≤ (cc : Int) := by omega
          obtain ⟨w4, rfl⟩ : ∃ wm : World, wm = wr := ⟨_, rfl⟩
          go_wp2_with fail
          clear hc5
          go_loopw [66] (fun i wq => ∃ j : Nat, j ≤ k ∧ i = .int .i64 j ∧ (∀ i (hi : i < j) (hik : i < cs.length), cs[i].v ≠ ⟨ak, an, sa⟩) ∧ Below w5.heap.size w5 wq) (fun i _ => k - (intOf i).toNat)
          case atStart => exact ⟨0, Nat.zero_le _, rfl, fun _ h => absurd h (by omega), Below.refl _ _⟩
          case round =>
            obtain ⟨j, hj, rfl, hun, hbq⟩ := hrel
            have HU := Lib.hid hun
            have HBQ := Lib.hid hbq
            clear hun hbq
            have hj0 : (0 : Int) ≤ (j : Int) := by omega
            have hwj : IntKind.i64.wrap ((j : Int) + 1) = (j : Int) + 1 := IntWalk.i64_in _ (by omega)
            by_cases hjk : j < k
            · have hjc : j < cs.length := by omega
              have hji : (j : Int) < (k : Int) := by omega
              have HZR := Lib.hid (HKJ.out j hjc wr (joinB HB5.out HBQ.out))
              have HUN := Lib.hid (show cs[j].v ≠ ⟨ak, an, sa⟩ → ∀ i (hi : i < j + 1) (hik : i < cs.length), cs[i].v ≠ ⟨ak, an, sa⟩ from fun h i hi hik => by
                rcases Nat.lt_or_eq_of_le (Nat.le_of_lt_succ hi) with h5 | h5
                · exact HU.out i h5 hik
                · subst h5; exact h)
              have HEQ := Lib.hid (show cs[j].v = ⟨ak, an, sa⟩ → ¬ P from fun h hP => HA5.out hP j hjk h)
              have HO := Lib.hid (fun W => order_any cs[j].v ⟨ak, an, sa⟩ W)
              have HOZ := Lib.hid (@Sp.ordV_zero cs[j].v ⟨ak, an, sa⟩)
              generalize Sp.ordV cs[j].v ⟨ak, an, sa⟩ = o at HO HOZ
              generalize cs[j] = z at HZR HUN HEQ HO HOZ
              obtain ⟨⟨bk, bn, sb⟩, bc⟩ := z
              simp only at HUN HEQ HO HOZ
              dsimp only [valA] at HO
              have HZC := Lib.hid (show wr.rangeAt b (off + j * 4) [.int .i64 bk, .int .i64 bn, .string sb, .int .i64 bc] from HZR.out)
              have HOX := Lib.hid (blkOld HOB5.out (HBQ.out.trans ((allocB wr (.cells #[.int .i64 bk, .int .i64 bn, .string sb, .int .i64 bc] 48)).mono HBQ.out.size)))
              have HOBZ := Lib.hid (heap_alloc_new wr (.cells #[.int .i64 bk, .int .i64 bn, .string sb, .int .i64 bc] 48))
              have HB6 := Lib.hid (joinB HBQ.out (allocB wr (.cells #[.int .i64 bk, .int .i64 bn, .string sb, .int .i64 bc] 48)))
              have hjl : (j : Int) < (cs.length : Int) := by omega
              clear HZR HU
              by_cases ho : o = 0
              · have HF := Lib.hid (HN.out (HEQ.out (HOZ.out.1 ho)))
                subst ho
                clear HA HMK2 HST HDEF HUN HOZ HEQ
                go_wp2_with (first
                  | (with_reducible refine wpList_load_mid rfl 48 (.tmp 68) rfl b (off + j * 4) rfl [.int .i64 bk, .int .i64 bn, .string sb, .int .i64 bc] _ HZC.out Try.underlying48 (by kernel_rfl) (by kernel_rfl) ?_)
                  | (with_reducible refine wpList_store_new rfl 48 (.tmp 9) (.tmp 69) rfl #[.int .i64 bk, .int .i64 bn, .string sb, .int .i64 bc] _ _ rfl (by kernel_rfl) (by kernel_rfl) (by kernel_rfl) (by kernel_rfl) ?_)
                  | (with_reducible refine listPart (by kernel_rfl) 36 (.tmp 70) rfl wr.heap.size 0 rfl #[.int .i64 bk, .int .i64 bn, .string sb] #[.int .i64 bk, .int .i64 bn, .string sb, .int .i64 bc] _ HOBZ.out (by kernel_rfl) _ Try.underlying36 (by kernel_rfl) (by kernel_rfl) ?_)
                  | (with_reducible refine listPart (by kernel_rfl) 36 (.tmp 72) rfl go 0 rfl #[.int .i64 ak, .int .i64 an, .string sa] #[.int .i64 ak, .int .i64 an, .string sa, .int .i64 ac] _ HOX.out (by kernel_rfl) _ Try.underlying36 (by kernel_rfl) (by kernel_rfl) ?_)
                  | (go_at_call 13; (with_reducible refine (HO.out _).mono ?_); rintro e w7 ⟨rfl, hg7⟩))
                exact HF.out _ (HZ5.out.step (joinB HB6.out hg7.below)).below _ (by simp)
              · have HUN2 := Lib.hid (HUN.out (fun h => ho (HOZ.out.2 h)))
                have ho2 : (o == 0) = false := by simpa using ho
                clear HUN HOZ HEQ ho
                go_wp2_with (first
                  | (with_reducible refine wpList_load_mid rfl 48 (.tmp 68) rfl b (off + j * 4) rfl [.int .i64 bk, .int .i64 bn, .string sb, .int .i64 bc] _ HZC.out Try.underlying48 (by kernel_rfl) (by kernel_rfl) ?_)
                  | (with_reducible refine wpList_store_new rfl 48 (.tmp 9) (.tmp 69) rfl #[.int .i64 bk, .int .i64 bn, .string sb, .int .i64 bc] _ _ rfl (by kernel_rfl) (by kernel_rfl) (by kernel_rfl) (by kernel_rfl) ?_)
                  | (with_reducible refine listPart (by kernel_rfl) 36 (.tmp 70) rfl wr.heap.size 0 rfl #[.int .i64 bk, .int .i64 bn, .string sb] #[.int .i64 bk, .int .i64 bn, .string sb, .int .i64 bc] _ HOBZ.out (by kernel_rfl) _ Try.underlying36 (by kernel_rfl) (by kernel_rfl) ?_)
                  | (with_reducible refine listPart (by kernel_rfl) 36 (.tmp 72) rfl go 0 rfl #[.int .i64 ak, .int .i64 an, .string sa] #[.int .i64 ak, .int .i64 an, .string sa, .int .i64 ac] _ HOX.out (by kernel_rfl) _ Try.underlying36 (by kernel_rfl) (by kernel_rfl) ?_)
                  | (go_at_call 13; (with_reducible refine (HO.out _).mono ?_); rintro e w7 ⟨rfl, hg7⟩))
                go_roundw
                case rel => exact ⟨j + 1, by omega, by go_num, HUN2.out, joinB HB6.out hg7.below⟩
                case measure => simp [intOf]; omega
            · obtain rfl : j = k := by omega
              have HAT2 := Lib.hid (HMK2.out (fun i hi => HU.out i hi (by omega)))
              have HALL := Lib.hid (show ∀ i (hi : i < cs.length), i < j + 1 → Sp.ComAt ⟨nu, di, es, cs⟩ rest i hi from fun i hi hij => by
                rcases Nat.lt_or_eq_of_le (Nat.le_of_lt_succ hij) with h5 | h5
                · exact HA.out i hi h5
                · subst h5; exact HAT2.out)
              have hst := HST.out
              have hwS : IntKind.i64.wrap (di - (cs.length : Int) + Sp.sumO (cs.take j) + ac) = di - (cs.length : Int) + Sp.sumO (cs.take (j + 1)) := by
                rw [hst, ← Int.add_assoc]
                exact IntWalk.i64_in _ (by omega)
              have hb1 : 0 ≤ Sp.sumO (cs.take (j + 1)) := by rw [hst]; omega
              have hb2 : Sp.sumO (cs.take (j + 1)) ≤ ((j + 1 : Nat) : Int) * 1000000000000 := by rw [hst]; push_cast; omega
              have HB1 := Lib.hid hb1
              have HB2 := Lib.hid hb2
              have hcx := blkCell (blkOld HOB5.out HBQ.out)
              clear hst hb1 hb2 HST HMK2 HDEF HA HU HKJ HA5
              go_wp2_with fail
              go_roundw
              case rel => exact ⟨j + 1, by omega, by go_num, rfl, HB1.out, HB2.out, HALL.out, HZ5.out.step HBQ.out⟩
              case measure => simp [intOf]; omega
    · obtain rfl : k = cs.length := by omega
      rw [List.take_length] at hs0 hs1 ⊢
      have hcl2 : (cs.length : Int) ≤ 4 := by omega
      by_cases hs : di - (cs.length : Int) + Sp.sumO cs ≤ rest
      · have HF := Lib.hid (HY.out (HDEF.out.2 ⟨hl4, hld, fun i hi => HA.out i hi hi, hs⟩) _ HX.out.below)
        clear HA HDEF HY HN
        generalize di - (cs.length : Int) + Sp.sumO cs = S2 at hs ⊢
        go_wp2_with fail
        exact HF.out _ (by simp [*])
      · have HF := Lib.hid (HN.out (fun h => hs (HDEF.out.1 h).2.2.2) _ HX.out.below)
        clear HA HDEF HY HN
        generalize di - (cs.length : Int) + Sp.sumO cs = S2 at hs ⊢
        go_wp2_with fail
        exact HF.out _ (by simp [*])
set_option maxRecDepth 100000 in
set_option maxHeartbeats 4000000 in
theorem ends_any (p : PCol) (hb : ColB p.c) (w : World) (hR : PColR w p) :
    Calls Try.prog 26 #[.agg (colA p)] w (Says (Sp.endsOk p.c) w) := by
  have HB := Lib.hid hb
  have HR := Lib.hid hR.ends
  have HG := Lib.hid (fun x hx W => ends1_any x (hb.ends x hx) W)
  obtain ⟨⟨nu, di, es, cs⟩, E, ec, C, cc⟩ := p
  simp only at HB HR HG
  have hel := HB.out.el
  simp only at hel
  have HY := Lib.hid (fun (h : Sp.endsOk ⟨nu, di, es, cs⟩) w' hb (e : Ending) he => says_yes (w := w) (w' := w') (e := e) h he hb)
  have HN := Lib.hid (fun (h : ¬ Sp.endsOk ⟨nu, di, es, cs⟩) w' hb (e : Ending) he => says_no (w := w) (w' := w') (e := e) h he hb)
  have HDEF := Lib.hid (show Sp.endsOk ⟨nu, di, es, cs⟩ ↔ (di = 0 → es.length = 0) ∧ (di ≠ 0 → es.length = 8 ∧ (∀ v ∈ es, Sp.goodV v) ∧ UpL es) from by
    unfold Sp.endsOk Sp.endsAll UpL
    by_cases h : di = 0
    · rw [if_pos h]; exact ⟨fun h1 => ⟨fun _ => h1, fun h2 => absurd h h2⟩, fun h1 => h1.1 h⟩
    · rw [if_neg h]
      constructor
      · intro h1
        refine ⟨fun h2 => absurd h2 h, fun _ => ⟨h1.1, fun v hv => ?_, h1.2.2⟩⟩
        obtain ⟨i, hi, rfl⟩ := List.getElem_of_mem hv
        exact h1.2.1 i hi
      · intro h1
        obtain ⟨a, b, c⟩ := h1.2 h
        exact ⟨a, fun i hi => b _ (List.getElem_mem hi), c⟩)
  generalize Sp.endsOk ⟨nu, di, es, cs⟩ = P at HY HN HDEF ⊢
  generalize Says P w = Q at HY HN ⊢
  have HCO := Lib.hid (fun W (hW : Below w.heap.size w W) => containsV_any (fun v => ¬ Sp.goodV v) 55 #[] (enters_of Try.func55 (by kernel_rfl) rfl) es hel E ec W (HR.out.below hW) (fun x hx W2 _ => HG.out x hx W2))
  have HSO := Lib.hid (fun W (hW : Below w.heap.size w W) => sorted_any es hel E ec W (HR.out.below hW))
  have HX1 := Lib.hid (show (∃ v ∈ es, ¬ Sp.goodV v) ↔ ¬ ∀ v ∈ es, Sp.goodV v from ⟨fun h h2 => by obtain ⟨v, a, b⟩ := h; exact b (h2 v a), fun h => Classical.byContradiction fun h2 => h fun v a => Classical.byContradiction fun b => h2 ⟨v, a, b⟩⟩)
  generalize (∃ v ∈ es, ¬ Sp.goodV v) = X1 at HCO HX1
  generalize (∀ v ∈ es, Sp.goodV v) = X2 at HX1 HDEF
  generalize UpL es = X3 at HSO HDEF
  clear hb hR HB HG HR
  dsimp only [colA]
  by_cases hd : di = 0
  · by_cases he : es.length = 0
    · have HF := Lib.hid (HY.out (HDEF.out.2 ⟨fun _ => he, fun h => absurd hd h⟩))
      have q1 : (di == 0) = true := by simpa using hd
      have HE := Lib.hid he
      clear HDEF HN HY hd he
      go_enter Try.func26, Try.ntmps26
      go_upto_region 1 with fail
      have H0 := Lib.hid (show BxL w.heap.size w [(#[.int .i64 nu, .int .i64 di, .slice E es.length ec, .slice C cs.length cc], 39)] (w.alloc (.cells #[.int .i64 nu, .int .i64 di, .slice E es.length ec, .slice C cs.length cc] 39)) from ((BxL.nil (Below.refl w.heap.size w)).new (by simp) #[.int .i64 nu, .int .i64 di, .slice E es.length ec, .slice C cs.length cc] 39))
      obtain ⟨W0, hW0⟩ : ∃ W, W = (w.alloc (.cells #[.int .i64 nu, .int .i64 di, .slice E es.length ec, .slice C cs.length cc] 39)) := ⟨_, rfl⟩
      rw [← hW0] at H0 ⊢
      clear hW0
      have hc0 := blkCell H0.out.get0
      go_wp2_with fail
      exact HF.out _ H0.out.below _ (by have := HE.out; simp [*])
    · have HF := Lib.hid (HN.out (fun h => he ((HDEF.out.1 h).1 hd)))
      have q1 : (di == 0) = true := by simpa using hd
      have HE := Lib.hid he
      clear HDEF HN HY hd he
      go_enter Try.func26, Try.ntmps26
      go_upto_region 1 with fail
      have H0 := Lib.hid (show BxL w.heap.size w [(#[.int .i64 nu, .int .i64 di, .slice E es.length ec, .slice C cs.length cc], 39)] (w.alloc (.cells #[.int .i64 nu, .int .i64 di, .slice E es.length ec, .slice C cs.length cc] 39)) from ((BxL.nil (Below.refl w.heap.size w)).new (by simp) #[.int .i64 nu, .int .i64 di, .slice E es.length ec, .slice C cs.length cc] 39))
      obtain ⟨W0, hW0⟩ : ∃ W, W = (w.alloc (.cells #[.int .i64 nu, .int .i64 di, .slice E es.length ec, .slice C cs.length cc] 39)) := ⟨_, rfl⟩
      rw [← hW0] at H0 ⊢
      clear hW0
      have hc0 := blkCell H0.out.get0
      go_wp2_with fail
      exact HF.out _ H0.out.below _ (by have := HE.out; simp [*])
  have q1 : (di == 0) = false := by simpa using hd
  by_cases he : es.length = 8
  rotate_left
  · have HF := Lib.hid (HN.out (fun h => he ((HDEF.out.1 h).2 hd).1))
    have q2 : ((es.length : Int) == 8) = false := by simp; omega
    clear HDEF HN HY he hd
    go_enter Try.func26, Try.ntmps26
    go_upto_region 1 with fail
    have H0 := Lib.hid (show BxL w.heap.size w [(#[.int .i64 nu, .int .i64 di, .slice E es.length ec, .slice C cs.length cc], 39)] (w.alloc (.cells #[.int .i64 nu, .int .i64 di, .slice E es.length ec, .slice C cs.length cc] 39)) from ((BxL.nil (Below.refl w.heap.size w)).new (by simp) #[.int .i64 nu, .int .i64 di, .slice E es.length ec, .slice C cs.length cc] 39))
    obtain ⟨W0, hW0⟩ : ∃ W, W = (w.alloc (.cells #[.int .i64 nu, .int .i64 di, .slice E es.length ec, .slice C cs.length cc] 39)) := ⟨_, rfl⟩
    rw [← hW0] at H0 ⊢
    clear hW0
    have hc0 := blkCell H0.out.get0
    go_wp2_with fail
    exact HF.out _ H0.out.below _ (by simp [*])
  have q2 : ((es.length : Int) == 8) = true := by simp; omega
  have HE := Lib.hid he
  by_cases hx : X1
  · have HP := Lib.hid hx
    have HF := Lib.hid (HN.out (fun h => (HX1.out.1 hx) ((HDEF.out.1 h).2 hd).2.1))
    clear HDEF HN HY hx HX1 he hd
    go_enter Try.func26, Try.ntmps26
    go_upto_region 1 with fail
    have H0 := Lib.hid (show BxL w.heap.size w [(#[.int .i64 nu, .int .i64 di, .slice E es.length ec, .slice C cs.length cc], 39)] (w.alloc (.cells #[.int .i64 nu, .int .i64 di, .slice E es.length ec, .slice C cs.length cc] 39)) from ((BxL.nil (Below.refl w.heap.size w)).new (by simp) #[.int .i64 nu, .int .i64 di, .slice E es.length ec, .slice C cs.length cc] 39))
    obtain ⟨W0, hW0⟩ : ∃ W, W = (w.alloc (.cells #[.int .i64 nu, .int .i64 di, .slice E es.length ec, .slice C cs.length cc] 39)) := ⟨_, rfl⟩
    rw [← hW0] at H0 ⊢
    clear hW0
    have hc0 := blkCell H0.out.get0
    go_wp2_with (first | (go_at_call 54; (with_reducible refine (HCO.out _ H0.out.below).mono ?_); rintro e w3 ⟨q, rfl, hq, hb3⟩; obtain rfl := q_true hq HP.out; clear hq; have H1 := Lib.hid (H0.out.step hb3); have hc1 := blkCell H1.out.get0))
    exact HF.out _ H1.out.below _ (by simp [*])
  have HP := Lib.hid hx
  have HX2 : Hid X2 := Lib.hid (Classical.byContradiction fun h => hx (HX1.out.2 h))
  clear HX1
  by_cases hs : X3
  · have HS := Lib.hid hs
    have HF := Lib.hid (HY.out (HDEF.out.2 ⟨fun h => absurd h hd, fun _ => ⟨he, HX2.out, hs⟩⟩))
    clear HDEF HN HY hx HX2 hs he hd
    go_enter Try.func26, Try.ntmps26
    go_upto_region 1 with fail
    have H0 := Lib.hid (show BxL w.heap.size w [(#[.int .i64 nu, .int .i64 di, .slice E es.length ec, .slice C cs.length cc], 39)] (w.alloc (.cells #[.int .i64 nu, .int .i64 di, .slice E es.length ec, .slice C cs.length cc] 39)) from ((BxL.nil (Below.refl w.heap.size w)).new (by simp) #[.int .i64 nu, .int .i64 di, .slice E es.length ec, .slice C cs.length cc] 39))
    obtain ⟨W0, hW0⟩ : ∃ W, W = (w.alloc (.cells #[.int .i64 nu, .int .i64 di, .slice E es.length ec, .slice C cs.length cc] 39)) := ⟨_, rfl⟩
    rw [← hW0] at H0 ⊢
    clear hW0
    have hc0 := blkCell H0.out.get0
    go_wp2_with (first | (go_at_call 54; (with_reducible refine (HCO.out _ H0.out.below).mono ?_); rintro e w3 ⟨q, rfl, hq, hb3⟩; obtain rfl := q_false hq HP.out; clear hq; have H1 := Lib.hid (H0.out.step hb3); have hc1 := blkCell H1.out.get0) | (go_at_call 56; (with_reducible refine (HSO.out _ H1.out.below).mono ?_); rintro e w4 ⟨q, rfl, hq, hb4⟩; obtain rfl := q_true hq HS.out; clear hq; have H2 := Lib.hid (H1.out.step hb4)))
    exact HF.out _ H2.out.below _ (by simp [*])
  · have HS := Lib.hid hs
    have HF := Lib.hid (HN.out (fun h => hs ((HDEF.out.1 h).2 hd).2.2))
    clear HDEF HN HY hx HX2 hs he hd
    go_enter Try.func26, Try.ntmps26
    go_upto_region 1 with fail
    have H0 := Lib.hid (show BxL w.heap.size w [(#[.int .i64 nu, .int .i64 di, .slice E es.length ec, .slice C cs.length cc], 39)] (w.alloc (.cells #[.int .i64 nu, .int .i64 di, .slice E es.length ec, .slice C cs.length cc] 39)) from ((BxL.nil (Below.refl w.heap.size w)).new (by simp) #[.int .i64 nu, .int .i64 di, .slice E es.length ec, .slice C cs.length cc] 39))
    obtain ⟨W0, hW0⟩ : ∃ W, W = (w.alloc (.cells #[.int .i64 nu, .int .i64 di, .slice E es.length ec, .slice C cs.length cc] 39)) := ⟨_, rfl⟩
    rw [← hW0] at H0 ⊢
    clear hW0
    have hc0 := blkCell H0.out.get0
    go_wp2_with (first | (go_at_call 54; (with_reducible refine (HCO.out _ H0.out.below).mono ?_); rintro e w3 ⟨q, rfl, hq, hb3⟩; obtain rfl := q_false hq HP.out; clear hq; have H1 := Lib.hid (H0.out.step hb3); have hc1 := blkCell H1.out.get0) | (go_at_call 56; (with_reducible refine (HSO.out _ H1.out.below).mono ?_); rintro e w4 ⟨q, rfl, hq, hb4⟩; obtain rfl := q_false hq HS.out; clear hq; have H2 := Lib.hid (H1.out.step hb4)))
    exact HF.out _ H2.out.below _ (by simp [*])
end Go.Proofs.Ytmhpbmobfdgkeaa
