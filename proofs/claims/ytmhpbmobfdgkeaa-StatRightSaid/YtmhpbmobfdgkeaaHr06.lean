/- The walk over the reference of statistics: one. -/
import Derived.Test.YtmhpbmobfdgkeaaHr05
namespace Sp
theorem sumO_ge {l : List Oft} {k : Nat} (h : ∀ o ∈ l, 0 ≤ o.n) : sumO (l.take k) ≤ sumO l := by
  have h1 : sumO l = sumO (l.take k) + sumO (l.drop k) := by
    unfold sumO
    rw [← List.sum_append, ← List.map_append, List.take_append_drop]
  have h2 : ∀ m : List Oft, (∀ o ∈ m, 0 ≤ o.n) → 0 ≤ sumO m := by
    intro m
    induction m with
    | nil => intro _; exact Int.le_refl _
    | cons a m ih =>
      intro h
      have e : sumO (a :: m) = a.n + sumO m := by unfold sumO; simp
      rw [e]
      have := h a (by simp)
      have := ih (fun o ho => h o (List.mem_cons_of_mem _ ho))
      omega
  have := h2 (l.drop k) (fun o ho => h o (List.mem_of_mem_drop ho))
  omega
end Sp
namespace Go.Proofs.Ytmhpbmobfdgkeaa
open Go.RowKit
set_option maxRecDepth 100000 in
set_option maxHeartbeats 8000000 in
theorem one_any (p : PCol) (hb : ColB p.c) (rows : Int) (hr0 : 0 ≤ rows) (hr1 : rows ≤ 1000000000000) (hnl : -9223372036854775808 ≤ p.c.nulls ∧ p.c.nulls ≤ 9223372036854775807) (w : World) (hR : PColR w p) :
    Calls Try.prog 32 #[.agg (colA p), .int .i64 rows] w (Says (Sp.colOk rows p.c) w) := by
  have HB := Lib.hid hb
  have HR := Lib.hid hR.com
  have HE := Lib.hid hR.ends
  obtain ⟨⟨nu, di, es, cs⟩, E, ec, C, cc⟩ := p
  simp only at HB HR HE hnl
  have HBC := Lib.hid HB.out.com
  have HBE := Lib.hid HB.out.ends
  have hcl := HB.out.cl
  have hel := HB.out.el
  simp only at HBC HBE hcl hel
  have HY := Lib.hid (fun (h : Sp.colOk rows ⟨nu, di, es, cs⟩) w' hb (e : Ending) he => says_yes (w := w) (w' := w') (e := e) h he hb)
  have HN := Lib.hid (fun (h : ¬ Sp.colOk rows ⟨nu, di, es, cs⟩) w' hb (e : Ending) he => says_no (w := w) (w' := w') (e := e) h he hb)
  have HDEF := Lib.hid (show Sp.colOk rows ⟨nu, di, es, cs⟩ ↔ (0 ≤ nu ∧ nu ≤ rows ∧ 0 ≤ di ∧ di ≤ rows - nu) ∧ (cs.length ≤ 4 ∧ (cs.length : Int) ≤ di ∧ (∀ i (hi : i < cs.length), Sp.ComAt ⟨nu, di, es, cs⟩ (rows - nu) i hi) ∧ di - (cs.length : Int) + Sp.sumO cs ≤ rows - nu) ∧ (di = 0 → es.length = 0) ∧ (di ≠ 0 → es.length = 8 ∧ (∀ i (hi : i < es.length), Sp.goodV es[i]) ∧ UpL es) from by
    unfold Sp.colOk Sp.commonOk Sp.endsOk Sp.endsAll UpL
    simp only
    by_cases h : di = 0
    · rw [if_pos h]
      exact ⟨fun h1 => ⟨h1.1, h1.2.1, fun _ => h1.2.2, fun h2 => absurd h h2⟩, fun h1 => ⟨h1.1, h1.2.1, h1.2.2.1 h⟩⟩
    · rw [if_neg h]
      exact ⟨fun h1 => ⟨h1.1, h1.2.1, fun h2 => absurd h2 h, fun _ => h1.2.2⟩, fun h1 => ⟨h1.1, h1.2.1, h1.2.2.2 h⟩⟩)
  generalize Sp.colOk rows ⟨nu, di, es, cs⟩ = P at HY HN HDEF ⊢
  generalize Says P w = Q at HY HN ⊢
  clear hb hR HB
  obtain ⟨hnl0, hnl1⟩ := hnl
  dsimp only [colA]
  by_cases n0 : nu < 0
  · have HF := Lib.hid (HN.out (fun h => by have := (HDEF.out.1 h).1.1; omega))
    clear HDEF HN HY HBC HBE HR HE
    go_enter Try.func32, Try.ntmps32
    go_upto_region 1 with fail
    have H0 := Lib.hid (show BxL w.heap.size w [(#[.int .i64 nu, .int .i64 di, .slice E es.length ec, .slice C cs.length cc], 39)] (w.alloc (.cells #[.int .i64 nu, .int .i64 di, .slice E es.length ec, .slice C cs.length cc] 39)) from ((BxL.nil (Below.refl w.heap.size w)).new (by simp) #[.int .i64 nu, .int .i64 di, .slice E es.length ec, .slice C cs.length cc] 39))
    obtain ⟨W0, hW0⟩ : ∃ W, W = (w.alloc (.cells #[.int .i64 nu, .int .i64 di, .slice E es.length ec, .slice C cs.length cc] 39)) := ⟨_, rfl⟩
    rw [← hW0] at H0 ⊢
    clear hW0
    have hc0 := blkCell H0.out.get0
    go_wp2_with fail
    exact HF.out _ H0.out.below _ (by simp [*])
  by_cases n1 : di < 0
  · have HF := Lib.hid (HN.out (fun h => by have := (HDEF.out.1 h).1.2.2.1; omega))
    clear HDEF HN HY HBC HBE HR HE
    go_enter Try.func32, Try.ntmps32
    go_upto_region 1 with fail
    have H0 := Lib.hid (show BxL w.heap.size w [(#[.int .i64 nu, .int .i64 di, .slice E es.length ec, .slice C cs.length cc], 39)] (w.alloc (.cells #[.int .i64 nu, .int .i64 di, .slice E es.length ec, .slice C cs.length cc] 39)) from ((BxL.nil (Below.refl w.heap.size w)).new (by simp) #[.int .i64 nu, .int .i64 di, .slice E es.length ec, .slice C cs.length cc] 39))
    obtain ⟨W0, hW0⟩ : ∃ W, W = (w.alloc (.cells #[.int .i64 nu, .int .i64 di, .slice E es.length ec, .slice C cs.length cc] 39)) := ⟨_, rfl⟩
    rw [← hW0] at H0 ⊢
    clear hW0
    have hc0 := blkCell H0.out.get0
    go_wp2_with fail
    exact HF.out _ H0.out.below _ (by simp [*])
  by_cases n2 : rows < nu
  · have HF := Lib.hid (HN.out (fun h => by have := (HDEF.out.1 h).1.2.1; omega))
    clear HDEF HN HY HBC HBE HR HE
    go_enter Try.func32, Try.ntmps32
    go_upto_region 1 with fail
    have H0 := Lib.hid (show BxL w.heap.size w [(#[.int .i64 nu, .int .i64 di, .slice E es.length ec, .slice C cs.length cc], 39)] (w.alloc (.cells #[.int .i64 nu, .int .i64 di, .slice E es.length ec, .slice C cs.length cc] 39)) from ((BxL.nil (Below.refl w.heap.size w)).new (by simp) #[.int .i64 nu, .int .i64 di, .slice E es.length ec, .slice C cs.length cc] 39))
    obtain ⟨W0, hW0⟩ : ∃ W, W = (w.alloc (.cells #[.int .i64 nu, .int .i64 di, .slice E es.length ec, .slice C cs.length cc] 39)) := ⟨_, rfl⟩
    rw [← hW0] at H0 ⊢
    clear hW0
    have hc0 := blkCell H0.out.get0
    go_wp2_with fail
    exact HF.out _ H0.out.below _ (by simp [*])
  have hwn : IntKind.i64.wrap (rows - nu) = rows - nu := IntWalk.i64_in _ (by omega)
  by_cases n3 : rows - nu < di
  · have HF := Lib.hid (HN.out (fun h => by have := (HDEF.out.1 h).1.2.2.2; omega))
    clear HDEF HN HY HBC HBE HR HE
    go_enter Try.func32, Try.ntmps32
    go_upto_region 1 with fail
    have H0 := Lib.hid (show BxL w.heap.size w [(#[.int .i64 nu, .int .i64 di, .slice E es.length ec, .slice C cs.length cc], 39)] (w.alloc (.cells #[.int .i64 nu, .int .i64 di, .slice E es.length ec, .slice C cs.length cc] 39)) from ((BxL.nil (Below.refl w.heap.size w)).new (by simp) #[.int .i64 nu, .int .i64 di, .slice E es.length ec, .slice C cs.length cc] 39))
    obtain ⟨W0, hW0⟩ : ∃ W, W = (w.alloc (.cells #[.int .i64 nu, .int .i64 di, .slice E es.length ec, .slice C cs.length cc] 39)) := ⟨_, rfl⟩
    rw [← hW0] at H0 ⊢
    clear hW0
    have hc0 := blkCell H0.out.get0
    go_wp2_with fail
    exact HF.out _ H0.out.below _ (by simp [*])
  by_cases n4 : (4 : Int) < (cs.length : Int)
  · have HF := Lib.hid (HN.out (fun h => by have := (HDEF.out.1 h).2.1.1; omega))
    clear HDEF HN HY HBC HBE HR HE
    go_enter Try.func32, Try.ntmps32
    go_upto_region 1 with fail
    have H0 := Lib.hid (show BxL w.heap.size w [(#[.int .i64 nu, .int .i64 di, .slice E es.length ec, .slice C cs.length cc], 39)] (w.alloc (.cells #[.int .i64 nu, .int .i64 di, .slice E es.length ec, .slice C cs.length cc] 39)) from ((BxL.nil (Below.refl w.heap.size w)).new (by simp) #[.int .i64 nu, .int .i64 di, .slice E es.length ec, .slice C cs.length cc] 39))
    obtain ⟨W0, hW0⟩ : ∃ W, W = (w.alloc (.cells #[.int .i64 nu, .int .i64 di, .slice E es.length ec, .slice C cs.length cc] 39)) := ⟨_, rfl⟩
    rw [← hW0] at H0 ⊢
    clear hW0
    have hc0 := blkCell H0.out.get0
    go_wp2_with fail
    exact HF.out _ H0.out.below _ (by simp [*])
  by_cases n5 : di < (cs.length : Int)
  · have HF := Lib.hid (HN.out (fun h => by have := (HDEF.out.1 h).2.1.2.1; omega))
    clear HDEF HN HY HBC HBE HR HE
    go_enter Try.func32, Try.ntmps32
    go_upto_region 1 with fail
    have H0 := Lib.hid (show BxL w.heap.size w [(#[.int .i64 nu, .int .i64 di, .slice E es.length ec, .slice C cs.length cc], 39)] (w.alloc (.cells #[.int .i64 nu, .int .i64 di, .slice E es.length ec, .slice C cs.length cc] 39)) from ((BxL.nil (Below.refl w.heap.size w)).new (by simp) #[.int .i64 nu, .int .i64 di, .slice E es.length ec, .slice C cs.length cc] 39))
    obtain ⟨W0, hW0⟩ : ∃ W, W = (w.alloc (.cells #[.int .i64 nu, .int .i64 di, .slice E es.length ec, .slice C cs.length cc] 39)) := ⟨_, rfl⟩
    rw [← hW0] at H0 ⊢
    clear hW0
    have hc0 := blkCell H0.out.get0
    go_wp2_with fail
    exact HF.out _ H0.out.below _ (by simp [*])
  have hwd : IntKind.i64.wrap (di - (cs.length : Int)) = di - (cs.length : Int) := IntWalk.i64_in _ (by omega)
  have hwr : IntKind.i64.wrap (rows - nu - (di - (cs.length : Int))) = rows - nu - (di - (cs.length : Int)) := IntWalk.i64_in _ (by omega)
  go_enter Try.func32, Try.ntmps32
  go_upto_region 1 with fail
  have H0 := Lib.hid (show BxL w.heap.size w [(#[.int .i64 nu, .int .i64 di, .slice E es.length ec, .slice C cs.length cc], 39)] (w.alloc (.cells #[.int .i64 nu, .int .i64 di, .slice E es.length ec, .slice C cs.length cc] 39)) from ((BxL.nil (Below.refl w.heap.size w)).new (by simp) #[.int .i64 nu, .int .i64 di, .slice E es.length ec, .slice C cs.length cc] 39))
  obtain ⟨W0, hW0⟩ : ∃ W, W = (w.alloc (.cells #[.int .i64 nu, .int .i64 di, .slice E es.length ec, .slice C cs.length cc] 39)) := ⟨_, rfl⟩
  rw [← hW0] at H0 ⊢
  clear hW0
  have hc0 := blkCell H0.out.get0
  go_wp2_with fail
  clear hc0
  go_loopw [5, 6] (fun s i wr => ∃ k : Nat, k ≤ cs.length ∧ i = .int .i64 k ∧ s = .int .i64 (rows - nu - (di - (cs.length : Int)) - Sp.sumO (cs.take k)) ∧ 0 ≤ Sp.sumO (cs.take k) ∧ Sp.sumO (cs.take k) ≤ rows - nu - (di - (cs.length : Int)) ∧ (∀ j (hj : j < cs.length), j < k → Sp.ComAt ⟨nu, di, es, cs⟩ (rows - nu) j hj) ∧ BxL w.heap.size w [(#[.int .i64 nu, .int .i64 di, .slice E es.length ec, .slice C cs.length cc], 39)] wr) (fun _ i _ => cs.length - (intOf i).toNat)
  case atStart => exact ⟨0, Nat.zero_le _, rfl, by simp [Sp.sumO], by simp [Sp.sumO], by simp [Sp.sumO]; omega, fun _ _ h => absurd h (by omega), H0.out⟩
  case round =>
    obtain ⟨k, hk, rfl, rfl, hs0, hs1, hall, hbx⟩ := hrel
    have HA := Lib.hid hall
    have HX := Lib.hid hbx
    clear hall hbx H0
    have hcb := blkCell HX.out.get0
    obtain ⟨S, hS⟩ : ∃ S, S = Sp.sumO (cs.take k) := ⟨_, rfl⟩
    rw [← hS] at hs0 hs1 ⊢
    have HSD := Lib.hid hS
    clear hS
    by_cases hlt : k < cs.length
    · obtain ⟨b, off, rfl, hca, hbl, hcell⟩ := read_at oftC_len (HR.out.below HX.out.below) hlt
      have hRL := HR.out.below HX.out.below
      have hkm : k - 1 < cs.length := by omega
      have hvb := HBC.out cs[k] (List.getElem_mem hlt)
      have hvm := HBC.out cs[k - 1] (List.getElem_mem hkm)
      have HST := Lib.hid (show Sp.sumO (cs.take (k + 1)) = S + cs[k].n from by rw [HSD.out]; exact Sp.sumO_take hlt)
      have HRI := Lib.hid (fun W => rright_any cs[k].v hvb.s W)
      have HNU := Lib.hid (fun W => rnull_any cs[k].v hvb.s W)
      have HKI := Lib.hid (@Sp.known_iff cs[k].v)
      have HAT : Hid (P → Sp.ComAt ⟨nu, di, es, cs⟩ (rows - nu) k hlt) := Lib.hid (fun h => (HDEF.out.1 h).2.1.2.2.1 k hlt)
      have HA1 := Lib.hid (fun h => (HAT.out h).good)
      have HA2 := Lib.hid (fun h => (HAT.out h).two)
      have HA3 := Lib.hid (show P → cs[k].n ≤ rows - nu - (di - (cs.length : Int)) - S from fun h => by
        have h1 := (HDEF.out.1 h).2.1.2.2
        have h2 := Sp.sumO_ge (l := cs) (k := k + 1) (fun o ho => by
          obtain ⟨i, hi, rfl⟩ := List.getElem_of_mem ho
          have := (h1.1 i hi).two
          simp only at this
          omega)
        rw [HST.out] at h2
        have := h1.2
        omega)
      have HA4 := Lib.hid (fun h => (HAT.out h).up)
      have HA5 := Lib.hid (fun h => (HAT.out h).unlike)
      have HMK := Lib.hid (show Sp.goodV cs[k].v → 2 ≤ cs[k].n → cs[k].n ≤ rows - nu → (∀ h : 0 < k, Sp.ordO (cs[k - 1]'hkm) cs[k] < 0) → (∀ j (hj : j < k), (cs[j]'(by omega)).v ≠ cs[k].v) → Sp.ComAt ⟨nu, di, es, cs⟩ (rows - nu) k hlt from fun a b c d e => ⟨a, b, c, d, e⟩)
      have HKJ := Lib.hid (show ∀ j (h : j < cs.length), ∀ u, Below wr.heap.size wr u → u.rangeAt b (off + j * 4) (oftC cs[j]) from fun j h => by
        obtain ⟨b', off', e', _, hbl', hcell'⟩ := read_at oftC_len hRL h
        injection e' with e'
        injection e' with e1 e2
        subst e1 e2
        exact fun u hu i v hi => by rw [hu.cell (p := ⟨b, off + j * 4 + i, none⟩) hbl']; exact hcell' i v hi)
      simp only at HA1 HA2 HA4 HA5
      obtain ⟨x, hx⟩ : ∃ x, x = cs[k] := ⟨_, rfl⟩
      rw [← hx] at hcell HRI HNU HKI HA1 HA2 HA3 HA4 HA5 HMK HST hvb
      clear hx HAT hRL
      obtain ⟨⟨ak, an, sa⟩, ac⟩ := x
      simp only at HRI HNU HKI HA1 HA2 HA3 HMK HST
      have HVB := Lib.hid hvb
      have HVM := Lib.hid hvm
      have HCELL := Lib.hid (show wr.rangeAt b (off + k * 4) [.int .i64 ak, .int .i64 an, .string sa, .int .i64 ac] from hcell)
      clear hcell hvb hvm
      dsimp only [valA] at HRI HNU
      have hk0 : (0 : Int) ≤ (k : Int) := by omega
      have hki : (k : Int) < (cs.length : Int) := by omega
      have hwk : IntKind.i64.wrap ((k : Int) + 1) = (k : Int) + 1 := IntWalk.i64_in _ (by omega)
      go_upto_region 8 with (first | (with_reducible refine wpList_load_mid rfl 48 (.tmp 68) rfl b (off + k * 4) rfl [.int .i64 ak, .int .i64 an, .string sa, .int .i64 ac] _ HCELL.out Try.underlying48 (by kernel_rfl) (by kernel_rfl) ?_) | (with_reducible refine wpList_store_new rfl 48 (.tmp 7) (.tmp 69) rfl #[.int .i64 ak, .int .i64 an, .string sa, .int .i64 ac] _ _ rfl (by kernel_rfl) (by kernel_rfl) (by kernel_rfl) (by kernel_rfl) ?_))
      have HCB := Lib.hid (blkOld HX.out.get0 (allocB wr (.cells #[.int .i64 ak, .int .i64 an, .string sa, .int .i64 ac] 48)))
      have HOB := Lib.hid (heap_alloc_new wr (.cells #[.int .i64 ak, .int .i64 an, .string sa, .int .i64 ac] 48))
      have hga := heapLt HX.out.get0
      have HBW := Lib.hid (allocB wr (.cells #[.int .i64 ak, .int .i64 an, .string sa, .int .i64 ac] 48))
      obtain ⟨go, hgo⟩ : ∃ g, g = wr.heap.size := ⟨_, rfl⟩
      obtain ⟨W1, hW1⟩ : ∃ W, W = wr.alloc (.cells #[.int .i64 ak, .int .i64 an, .string sa, .int .i64 ac] 48) := ⟨_, rfl⟩
      rw [← hW1] at HCB HBW
      rw [← hgo, ← hW1] at HOB
      rw [← hgo] at hga
      rw [← hW1, ← hgo]
      clear hW1 HCELL hcb
      have HGO := Lib.hid hgo
      clear hgo
      simp only [Act.put]
      go_cut [104] (fun q wc => ∃ t : Bool, q = .bool t ∧ (t = true → ¬ P) ∧ (t = false → Sp.goodV ⟨ak, an, sa⟩ ∧ 2 ≤ ac ∧ ac ≤ rows - nu - (di - (cs.length : Int)) - S ∧ (∀ h : 0 < k, Sp.ordO (cs[k - 1]'hkm) ⟨⟨ak, an, sa⟩, ac⟩ < 0)) ∧ Below W1.heap.size W1 wc)
      case first =>
        clear HY HN HDEF HA5 HMK HST HA
        by_cases hg : Sp.rightV ⟨ak, an, sa⟩
        rotate_left
        · have HP := Lib.hid hg
          have HF := Lib.hid (show ¬ P from fun h => hg (HA1.out h).1)
          clear hg HA1 HA2 HA3 HA4
          generalize Sp.rightV ⟨ak, an, sa⟩ = g at HP HRI
          have hSn : Below W1.heap.size W1 W1.drew := (Below.refl _ W1).drew
          refine wp_region_held_drew (S := (fun u => Below W1.heap.size W1 u)) (by kernel_rfl) ?_ (fun hHeld => ?_)
          · exact hSn
          generalize W1.drew = w9 at hSn ⊢
          refine tkW 0 (some 70) (v := ?_) rfl ?_ ?_
          rotate_left
          · intro u hSu; have hSa := blkCell (blkOld HCB.out hSu); have hSb := blkCell (blkOld HOB.out hSu); clear hSu; go_simp; (try with_reducible rfl)
          try simp only [Act.put, List.setIfInBounds_toArray, List.set_cons_zero, List.set_cons_succ]
          refine tkV 1 (some 71) (v := .agg #[.int .i64 ak, .int .i64 an, .string sa]) rfl (yieldsIf_load_mid (by rfl) 36 (.tmp 70) rfl go 0 (by rfl) [.int .i64 ak, .int .i64 an, .string sa] _ (fun u hu j v hj => by rw [blkCell (blkOld HOB.out hu)]; rcases j with _ | _ | _ | _ | j <;> simp at hj ⊢ <;> exact hj) Try.underlying36 (by kernel_rfl) (by kernel_rfl)) ?_
          try simp only [Act.put, List.setIfInBounds_toArray, List.set_cons_zero, List.set_cons_succ]
          refine rdH 2 (some 72) rfl (fun K hK => ?_)
          go_simp
          (with_reducible refine (HRI.out _).mono ?_); rintro e w2 ⟨q, rfl, hq, hb2⟩; obtain rfl := q_false hq HP.out; clear hq; have hSm := joinB hSn hb2; clear hSn hb2; have hSn := hSm; clear hSm
          refine hK.out _ _ ?_ (fun hHeld => ?_)
          · exact hSn
          clear hK K
          try simp only [Act.put, List.setIfInBounds_toArray, List.set_cons_zero, List.set_cons_succ]
          refine tkW 3 (some 73) (v := ?_) rfl ?_ ?_
          rotate_left
          · intro u hSu; have hSa := blkCell (blkOld HCB.out hSu); have hSb := blkCell (blkOld HOB.out hSu); clear hSu; go_simp; (try with_reducible rfl)
          try simp only [Act.put, List.setIfInBounds_toArray, List.set_cons_zero, List.set_cons_succ]
          refine tkW 4 (some 74) (v := ?_) rfl ?_ ?_
          rotate_left
          · intro u hSu; have hSa := blkCell (blkOld HCB.out hSu); have hSb := blkCell (blkOld HOB.out hSu); clear hSu; go_simp; (try with_reducible rfl)
          try simp only [Act.put, List.setIfInBounds_toArray, List.set_cons_zero, List.set_cons_succ]
          refine tkO 5 (some 75) rfl ?_
          try simp only [Act.put, List.setIfInBounds_toArray, List.set_cons_zero, List.set_cons_succ]
          refine tkO 6 (some 76) rfl ?_
          try simp only [Act.put, List.setIfInBounds_toArray, List.set_cons_zero, List.set_cons_succ]
          refine tkO 7 (some 77) rfl ?_
          try simp only [Act.put, List.setIfInBounds_toArray, List.set_cons_zero, List.set_cons_succ]
          refine tkW 8 (some 78) (v := ?_) rfl ?_ ?_
          rotate_left
          · intro u hSu; have hSa := blkCell (blkOld HCB.out hSu); have hSb := blkCell (blkOld HOB.out hSu); clear hSu; go_simp; (try with_reducible rfl)
          try simp only [Act.put, List.setIfInBounds_toArray, List.set_cons_zero, List.set_cons_succ]
          refine tkW 9 (some 79) (v := ?_) rfl ?_ ?_
          rotate_left
          · intro u hSu; have hSa := blkCell (blkOld HCB.out hSu); have hSb := blkCell (blkOld HOB.out hSu); clear hSu; go_simp; (try with_reducible rfl)
          try simp only [Act.put, List.setIfInBounds_toArray, List.set_cons_zero, List.set_cons_succ]
          refine tkO 10 (some 80) rfl ?_
          try simp only [Act.put, List.setIfInBounds_toArray, List.set_cons_zero, List.set_cons_succ]
          refine tkO 11 (some 81) rfl ?_
          try simp only [Act.put, List.setIfInBounds_toArray, List.set_cons_zero, List.set_cons_succ]
          refine tkO 12 (some 82) rfl ?_
          try simp only [Act.put, List.setIfInBounds_toArray, List.set_cons_zero, List.set_cons_succ]
          refine tkW 13 (some 83) (v := ?_) rfl ?_ ?_
          rotate_left
          · intro u hSu; have hSa := blkCell (blkOld HCB.out hSu); have hSb := blkCell (blkOld HOB.out hSu); clear hSu; go_simp; (try with_reducible rfl)
          try simp only [Act.put, List.setIfInBounds_toArray, List.set_cons_zero, List.set_cons_succ]
          refine tkW 14 (some 84) (v := ?_) rfl ?_ ?_
          rotate_left
          · intro u hSu; have hSa := blkCell (blkOld HCB.out hSu); have hSb := blkCell (blkOld HOB.out hSu); clear hSu; go_simp; (try with_reducible rfl)
          try simp only [Act.put, List.setIfInBounds_toArray, List.set_cons_zero, List.set_cons_succ]
          refine tkO 15 (some 85) rfl ?_
          try simp only [Act.put, List.setIfInBounds_toArray, List.set_cons_zero, List.set_cons_succ]
          refine tkO 16 (some 86) rfl ?_
          try simp only [Act.put, List.setIfInBounds_toArray, List.set_cons_zero, List.set_cons_succ]
          refine tkO 17 (some 87) rfl ?_
          try simp only [Act.put, List.setIfInBounds_toArray, List.set_cons_zero, List.set_cons_succ]
          refine tkO 18 (some 88) rfl ?_
          try simp only [Act.put, List.setIfInBounds_toArray, List.set_cons_zero, List.set_cons_succ]
          refine tkW 19 (some 89) (v := ?_) rfl ?_ ?_
          rotate_left
          · intro u hSu; have hSa := blkCell (blkOld HCB.out hSu); have hSb := blkCell (blkOld HOB.out hSu); clear hSu; go_simp; (try with_reducible rfl)
          try simp only [Act.put, List.setIfInBounds_toArray, List.set_cons_zero, List.set_cons_succ]
          refine tkW 20 (some 90) (v := ?_) rfl ?_ ?_
          rotate_left
          · intro u hSu; have hSa := blkCell (blkOld HCB.out hSu); have hSb := blkCell (blkOld HOB.out hSu); clear hSu; go_simp; (try with_reducible rfl)
          try simp only [Act.put, List.setIfInBounds_toArray, List.set_cons_zero, List.set_cons_succ]
          refine tkO 21 (some 91) rfl ?_
          try simp only [Act.put, List.setIfInBounds_toArray, List.set_cons_zero, List.set_cons_succ]
          refine tkO 22 (some 92) rfl ?_
          try simp only [Act.put, List.setIfInBounds_toArray, List.set_cons_zero, List.set_cons_succ]
          refine tkO 23 (some 93) rfl ?_
          try simp only [Act.put, List.setIfInBounds_toArray, List.set_cons_zero, List.set_cons_succ]
          refine tkO 24 (some 94) rfl ?_
          try simp only [Act.put, List.setIfInBounds_toArray, List.set_cons_zero, List.set_cons_succ]
          refine tkO 25 (some 95) rfl ?_
          try simp only [Act.put, List.setIfInBounds_toArray, List.set_cons_zero, List.set_cons_succ]
          refine tkO 26 (some 96) rfl ?_
          try simp only [Act.put, List.setIfInBounds_toArray, List.set_cons_zero, List.set_cons_succ]
          refine tkO 27 (some 97) rfl ?_
          try simp only [Act.put, List.setIfInBounds_toArray, List.set_cons_zero, List.set_cons_succ]
          refine tkO 28 (some 98) rfl ?_
          try simp only [Act.put, List.setIfInBounds_toArray, List.set_cons_zero, List.set_cons_succ]
          refine tkO 29 (some 99) rfl ?_
          try simp only [Act.put, List.setIfInBounds_toArray, List.set_cons_zero, List.set_cons_succ]
          refine tkO 30 (some 100) rfl ?_
          try simp only [Act.put, List.setIfInBounds_toArray, List.set_cons_zero, List.set_cons_succ]
          refine tkO 31 (some 101) rfl ?_
          try simp only [Act.put, List.setIfInBounds_toArray, List.set_cons_zero, List.set_cons_succ]
          refine tkO 32 (some 102) rfl ?_
          try simp only [Act.put, List.setIfInBounds_toArray, List.set_cons_zero, List.set_cons_succ]
          refine tkO 33 (some 103) rfl ?_
          try simp only [Act.put, List.setIfInBounds_toArray, List.set_cons_zero, List.set_cons_succ]
          refine tkW 34 (some 104) (v := ?_) rfl ?_ ?_
          rotate_left
          · intro u hSu; have hSa := blkCell (blkOld HCB.out hSu); have hSb := blkCell (blkOld HOB.out hSu); clear hSu; go_simp; (try with_reducible rfl)
          try simp only [Act.put, List.setIfInBounds_toArray, List.set_cons_zero, List.set_cons_succ]
          refine wpAnyH_done (by kernel_rfl) ?_ _
          clear hHeld
          go_wp2_with fail
          go_meet
          case rel => exact ⟨true, rfl, (fun _ => HF.out), (fun h => by cases h), hSn⟩
        have HP := Lib.hid hg
        cases hkn : Sp.known ⟨ak, an, sa⟩ with
        | false =>
          rw [hkn] at HNU
          have HF := Lib.hid (show ¬ P from fun h => by have h1 := HKI.out.2 (HA1.out h).2; rw [hkn] at h1; cases h1)
          clear hg HA1 HA2 HA3 HA4 hkn
          generalize Sp.rightV ⟨ak, an, sa⟩ = g at HP HRI
          have hSn : Below W1.heap.size W1 W1.drew := (Below.refl _ W1).drew
          refine wp_region_held_drew (S := (fun u => Below W1.heap.size W1 u)) (by kernel_rfl) ?_ (fun hHeld => ?_)
          · exact hSn
          generalize W1.drew = w9 at hSn ⊢
          refine tkW 0 (some 70) (v := ?_) rfl ?_ ?_
          rotate_left
          · intro u hSu; have hSa := blkCell (blkOld HCB.out hSu); have hSb := blkCell (blkOld HOB.out hSu); clear hSu; go_simp; (try with_reducible rfl)
          try simp only [Act.put, List.setIfInBounds_toArray, List.set_cons_zero, List.set_cons_succ]
          refine tkV 1 (some 71) (v := .agg #[.int .i64 ak, .int .i64 an, .string sa]) rfl (yieldsIf_load_mid (by rfl) 36 (.tmp 70) rfl go 0 (by rfl) [.int .i64 ak, .int .i64 an, .string sa] _ (fun u hu j v hj => by rw [blkCell (blkOld HOB.out hu)]; rcases j with _ | _ | _ | _ | j <;> simp at hj ⊢ <;> exact hj) Try.underlying36 (by kernel_rfl) (by kernel_rfl)) ?_
          try simp only [Act.put, List.setIfInBounds_toArray, List.set_cons_zero, List.set_cons_succ]
          refine rdH 2 (some 72) rfl (fun K hK => ?_)
          go_simp
          (with_reducible refine (HRI.out _).mono ?_); rintro e w2 ⟨q, rfl, hq, hb2⟩; obtain rfl := q_true hq HP.out; clear hq; have hSm := joinB hSn hb2; clear hSn hb2; have hSn := hSm; clear hSm
          refine hK.out _ _ ?_ (fun hHeld => ?_)
          · exact hSn
          clear hK K
          try simp only [Act.put, List.setIfInBounds_toArray, List.set_cons_zero, List.set_cons_succ]
          refine tkW 3 (some 73) (v := ?_) rfl ?_ ?_
          rotate_left
          · intro u hSu; have hSa := blkCell (blkOld HCB.out hSu); have hSb := blkCell (blkOld HOB.out hSu); clear hSu; go_simp; (try with_reducible rfl)
          try simp only [Act.put, List.setIfInBounds_toArray, List.set_cons_zero, List.set_cons_succ]
          refine tkW 4 (some 74) (v := ?_) rfl ?_ ?_
          rotate_left
          · intro u hSu; have hSa := blkCell (blkOld HCB.out hSu); have hSb := blkCell (blkOld HOB.out hSu); clear hSu; go_simp; (try with_reducible rfl)
          try simp only [Act.put, List.setIfInBounds_toArray, List.set_cons_zero, List.set_cons_succ]
          refine tkW 5 (some 75) (v := ?_) rfl ?_ ?_
          rotate_left
          · intro u hSu; have hSa := blkCell (blkOld HCB.out hSu); have hSb := blkCell (blkOld HOB.out hSu); clear hSu; go_simp; (try with_reducible rfl)
          try simp only [Act.put, List.setIfInBounds_toArray, List.set_cons_zero, List.set_cons_succ]
          refine tkV 6 (some 76) (v := .agg #[.int .i64 ak, .int .i64 an, .string sa]) rfl (yieldsIf_load_mid (by rfl) 36 (.tmp 75) rfl go 0 (by rfl) [.int .i64 ak, .int .i64 an, .string sa] _ (fun u hu j v hj => by rw [blkCell (blkOld HOB.out hu)]; rcases j with _ | _ | _ | _ | j <;> simp at hj ⊢ <;> exact hj) Try.underlying36 (by kernel_rfl) (by kernel_rfl)) ?_
          try simp only [Act.put, List.setIfInBounds_toArray, List.set_cons_zero, List.set_cons_succ]
          refine rdH 7 (some 77) rfl (fun K hK => ?_)
          go_simp
          (with_reducible refine (HNU.out _).mono ?_); rintro e w3 ⟨rfl, hg3⟩; have hSm := joinB hSn hg3.below; clear hSn hg3; have hSn := hSm; clear hSm
          refine hK.out _ _ ?_ (fun hHeld => ?_)
          · exact hSn
          clear hK K
          try simp only [Act.put, List.setIfInBounds_toArray, List.set_cons_zero, List.set_cons_succ]
          refine tkW 8 (some 78) (v := ?_) rfl ?_ ?_
          rotate_left
          · intro u hSu; have hSa := blkCell (blkOld HCB.out hSu); have hSb := blkCell (blkOld HOB.out hSu); clear hSu; go_simp; (try with_reducible rfl)
          try simp only [Act.put, List.setIfInBounds_toArray, List.set_cons_zero, List.set_cons_succ]
          refine tkW 9 (some 79) (v := ?_) rfl ?_ ?_
          rotate_left
          · intro u hSu; have hSa := blkCell (blkOld HCB.out hSu); have hSb := blkCell (blkOld HOB.out hSu); clear hSu; go_simp; (try with_reducible rfl)
          try simp only [Act.put, List.setIfInBounds_toArray, List.set_cons_zero, List.set_cons_succ]
          refine tkO 10 (some 80) rfl ?_
          try simp only [Act.put, List.setIfInBounds_toArray, List.set_cons_zero, List.set_cons_succ]
          refine tkO 11 (some 81) rfl ?_
          try simp only [Act.put, List.setIfInBounds_toArray, List.set_cons_zero, List.set_cons_succ]
          refine tkO 12 (some 82) rfl ?_
          try simp only [Act.put, List.setIfInBounds_toArray, List.set_cons_zero, List.set_cons_succ]
          refine tkW 13 (some 83) (v := ?_) rfl ?_ ?_
          rotate_left
          · intro u hSu; have hSa := blkCell (blkOld HCB.out hSu); have hSb := blkCell (blkOld HOB.out hSu); clear hSu; go_simp; (try with_reducible rfl)
          try simp only [Act.put, List.setIfInBounds_toArray, List.set_cons_zero, List.set_cons_succ]
          refine tkW 14 (some 84) (v := ?_) rfl ?_ ?_
          rotate_left
          · intro u hSu; have hSa := blkCell (blkOld HCB.out hSu); have hSb := blkCell (blkOld HOB.out hSu); clear hSu; go_simp; (try with_reducible rfl)
          try simp only [Act.put, List.setIfInBounds_toArray, List.set_cons_zero, List.set_cons_succ]
          refine tkO 15 (some 85) rfl ?_
          try simp only [Act.put, List.setIfInBounds_toArray, List.set_cons_zero, List.set_cons_succ]
          refine tkO 16 (some 86) rfl ?_
          try simp only [Act.put, List.setIfInBounds_toArray, List.set_cons_zero, List.set_cons_succ]
          refine tkO 17 (some 87) rfl ?_
          try simp only [Act.put, List.setIfInBounds_toArray, List.set_cons_zero, List.set_cons_succ]
          refine tkO 18 (some 88) rfl ?_
          try simp only [Act.put, List.setIfInBounds_toArray, List.set_cons_zero, List.set_cons_succ]
          refine tkW 19 (some 89) (v := ?_) rfl ?_ ?_
          rotate_left
          · intro u hSu; have hSa := blkCell (blkOld HCB.out hSu); have hSb := blkCell (blkOld HOB.out hSu); clear hSu; go_simp; (try with_reducible rfl)
          try simp only [Act.put, List.setIfInBounds_toArray, List.set_cons_zero, List.set_cons_succ]
          refine tkW 20 (some 90) (v := ?_) rfl ?_ ?_
          rotate_left
          · intro u hSu; have hSa := blkCell (blkOld HCB.out hSu); have hSb := blkCell (blkOld HOB.out hSu); clear hSu; go_simp; (try with_reducible rfl)
          try simp only [Act.put, List.setIfInBounds_toArray, List.set_cons_zero, List.set_cons_succ]
          refine tkO 21 (some 91) rfl ?_
          try simp only [Act.put, List.setIfInBounds_toArray, List.set_cons_zero, List.set_cons_succ]
          refine tkO 22 (some 92) rfl ?_
          try simp only [Act.put, List.setIfInBounds_toArray, List.set_cons_zero, List.set_cons_succ]
          refine tkO 23 (some 93) rfl ?_
          try simp only [Act.put, List.setIfInBounds_toArray, List.set_cons_zero, List.set_cons_succ]
          refine tkO 24 (some 94) rfl ?_
          try simp only [Act.put, List.setIfInBounds_toArray, List.set_cons_zero, List.set_cons_succ]
          refine tkO 25 (some 95) rfl ?_
          try simp only [Act.put, List.setIfInBounds_toArray, List.set_cons_zero, List.set_cons_succ]
          refine tkO 26 (some 96) rfl ?_
          try simp only [Act.put, List.setIfInBounds_toArray, List.set_cons_zero, List.set_cons_succ]
          refine tkO 27 (some 97) rfl ?_
          try simp only [Act.put, List.setIfInBounds_toArray, List.set_cons_zero, List.set_cons_succ]
          refine tkO 28 (some 98) rfl ?_
          try simp only [Act.put, List.setIfInBounds_toArray, List.set_cons_zero, List.set_cons_succ]
          refine tkO 29 (some 99) rfl ?_
          try simp only [Act.put, List.setIfInBounds_toArray, List.set_cons_zero, List.set_cons_succ]
          refine tkO 30 (some 100) rfl ?_
          try simp only [Act.put, List.setIfInBounds_toArray, List.set_cons_zero, List.set_cons_succ]
          refine tkO 31 (some 101) rfl ?_
          try simp only [Act.put, List.setIfInBounds_toArray, List.set_cons_zero, List.set_cons_succ]
          refine tkO 32 (some 102) rfl ?_
          try simp only [Act.put, List.setIfInBounds_toArray, List.set_cons_zero, List.set_cons_succ]
          refine tkO 33 (some 103) rfl ?_
          try simp only [Act.put, List.setIfInBounds_toArray, List.set_cons_zero, List.set_cons_succ]
          refine tkW 34 (some 104) (v := ?_) rfl ?_ ?_
          rotate_left
          · intro u hSu; have hSa := blkCell (blkOld HCB.out hSu); have hSb := blkCell (blkOld HOB.out hSu); clear hSu; go_simp; (try with_reducible rfl)
          try simp only [Act.put, List.setIfInBounds_toArray, List.set_cons_zero, List.set_cons_succ]
          refine wpAnyH_done (by kernel_rfl) ?_ _
          clear hHeld
          go_wp2_with fail
          go_meet
          case rel => exact ⟨true, rfl, (fun _ => HF.out), (fun h => by cases h), hSn⟩
        | true =>
          rw [hkn] at HNU
          have hgd : Sp.goodV ⟨ak, an, sa⟩ := ⟨hg, HKI.out.1 hkn⟩
          by_cases h2 : ac < 2
          · have HF := Lib.hid (show ¬ P from fun h => by have := HA2.out h; omega)
            clear hg HA1 HA2 HA3 HA4 hkn hgd
            generalize Sp.rightV ⟨ak, an, sa⟩ = g at HP HRI
            have hSn : Below W1.heap.size W1 W1.drew := (Below.refl _ W1).drew
            refine wp_region_held_drew (S := (fun u => Below W1.heap.size W1 u)) (by kernel_rfl) ?_ (fun hHeld => ?_)
            · exact hSn
            generalize W1.drew = w9 at hSn ⊢
            refine tkW 0 (some 70) (v := ?_) rfl ?_ ?_
            rotate_left
            · intro u hSu; have hSa := blkCell (blkOld HCB.out hSu); have hSb := blkCell (blkOld HOB.out hSu); clear hSu; go_simp; (try with_reducible rfl)
            try simp only [Act.put, List.setIfInBounds_toArray, List.set_cons_zero, List.set_cons_succ]
            refine tkV 1 (some 71) (v := .agg #[.int .i64 ak, .int .i64 an, .string sa]) rfl (yieldsIf_load_mid (by rfl) 36 (.tmp 70) rfl go 0 (by rfl) [.int .i64 ak, .int .i64 an, .string sa] _ (fun u hu j v hj => by rw [blkCell (blkOld HOB.out hu)]; rcases j with _ | _ | _ | _ | j <;> simp at hj ⊢ <;> exact hj) Try.underlying36 (by kernel_rfl) (by kernel_rfl)) ?_
            try simp only [Act.put, List.setIfInBounds_toArray, List.set_cons_zero, List.set_cons_succ]
            refine rdH 2 (some 72) rfl (fun K hK => ?_)
            go_simp
            (with_reducible refine (HRI.out _).mono ?_); rintro e w2 ⟨q, rfl, hq, hb2⟩; obtain rfl := q_true hq HP.out; clear hq; have hSm := joinB hSn hb2; clear hSn hb2; have hSn := hSm; clear hSm
            refine hK.out _ _ ?_ (fun hHeld => ?_)
            · exact hSn
            clear hK K
            try simp only [Act.put, List.setIfInBounds_toArray, List.set_cons_zero, List.set_cons_succ]
            refine tkW 3 (some 73) (v := ?_) rfl ?_ ?_
            rotate_left
            · intro u hSu; have hSa := blkCell (blkOld HCB.out hSu); have hSb := blkCell (blkOld HOB.out hSu); clear hSu; go_simp; (try with_reducible rfl)
            try simp only [Act.put, List.setIfInBounds_toArray, List.set_cons_zero, List.set_cons_succ]
            refine tkW 4 (some 74) (v := ?_) rfl ?_ ?_
            rotate_left
            · intro u hSu; have hSa := blkCell (blkOld HCB.out hSu); have hSb := blkCell (blkOld HOB.out hSu); clear hSu; go_simp; (try with_reducible rfl)
            try simp only [Act.put, List.setIfInBounds_toArray, List.set_cons_zero, List.set_cons_succ]
            refine tkW 5 (some 75) (v := ?_) rfl ?_ ?_
            rotate_left
            · intro u hSu; have hSa := blkCell (blkOld HCB.out hSu); have hSb := blkCell (blkOld HOB.out hSu); clear hSu; go_simp; (try with_reducible rfl)
            try simp only [Act.put, List.setIfInBounds_toArray, List.set_cons_zero, List.set_cons_succ]
            refine tkV 6 (some 76) (v := .agg #[.int .i64 ak, .int .i64 an, .string sa]) rfl (yieldsIf_load_mid (by rfl) 36 (.tmp 75) rfl go 0 (by rfl) [.int .i64 ak, .int .i64 an, .string sa] _ (fun u hu j v hj => by rw [blkCell (blkOld HOB.out hu)]; rcases j with _ | _ | _ | _ | j <;> simp at hj ⊢ <;> exact hj) Try.underlying36 (by kernel_rfl) (by kernel_rfl)) ?_
            try simp only [Act.put, List.setIfInBounds_toArray, List.set_cons_zero, List.set_cons_succ]
            refine rdH 7 (some 77) rfl (fun K hK => ?_)
            go_simp
            (with_reducible refine (HNU.out _).mono ?_); rintro e w3 ⟨rfl, hg3⟩; have hSm := joinB hSn hg3.below; clear hSn hg3; have hSn := hSm; clear hSm
            refine hK.out _ _ ?_ (fun hHeld => ?_)
            · exact hSn
            clear hK K
            try simp only [Act.put, List.setIfInBounds_toArray, List.set_cons_zero, List.set_cons_succ]
            refine tkW 8 (some 78) (v := ?_) rfl ?_ ?_
            rotate_left
            · intro u hSu; have hSa := blkCell (blkOld HCB.out hSu); have hSb := blkCell (blkOld HOB.out hSu); clear hSu; go_simp; (try with_reducible rfl)
            try simp only [Act.put, List.setIfInBounds_toArray, List.set_cons_zero, List.set_cons_succ]
            refine tkW 9 (some 79) (v := ?_) rfl ?_ ?_
            rotate_left
            · intro u hSu; have hSa := blkCell (blkOld HCB.out hSu); have hSb := blkCell (blkOld HOB.out hSu); clear hSu; go_simp; (try with_reducible rfl)
            try simp only [Act.put, List.setIfInBounds_toArray, List.set_cons_zero, List.set_cons_succ]
            refine tkW 10 (some 80) (v := ?_) rfl ?_ ?_
            rotate_left
            · intro u hSu; have hSa := blkCell (blkOld HCB.out hSu); have hSb := blkCell (blkOld HOB.out hSu); clear hSu; go_simp; (try with_reducible rfl)
            try simp only [Act.put, List.setIfInBounds_toArray, List.set_cons_zero, List.set_cons_succ]
            refine tkW 11 (some 81) (v := ?_) rfl ?_ ?_
            rotate_left
            · intro u hSu; have hSa := blkCell (blkOld HCB.out hSu); have hSb := blkCell (blkOld HOB.out hSu); clear hSu; go_simp; (try with_reducible rfl)
            try simp only [Act.put, List.setIfInBounds_toArray, List.set_cons_zero, List.set_cons_succ]
            refine tkW 12 (some 82) (v := ?_) rfl ?_ ?_
            rotate_left
            · intro u hSu; have hSa := blkCell (blkOld HCB.out hSu); have hSb := blkCell (blkOld HOB.out hSu); clear hSu; go_simp; (try with_reducible rfl)
            try simp only [Act.put, List.setIfInBounds_toArray, List.set_cons_zero, List.set_cons_succ]
            refine tkW 13 (some 83) (v := ?_) rfl ?_ ?_
            rotate_left
            · intro u hSu; have hSa := blkCell (blkOld HCB.out hSu); have hSb := blkCell (blkOld HOB.out hSu); clear hSu; go_simp; (try with_reducible rfl)
            try simp only [Act.put, List.setIfInBounds_toArray, List.set_cons_zero, List.set_cons_succ]
            refine tkW 14 (some 84) (v := ?_) rfl ?_ ?_
            rotate_left
            · intro u hSu; have hSa := blkCell (blkOld HCB.out hSu); have hSb := blkCell (blkOld HOB.out hSu); clear hSu; go_simp; (try with_reducible rfl)
            try simp only [Act.put, List.setIfInBounds_toArray, List.set_cons_zero, List.set_cons_succ]
            refine tkO 15 (some 85) rfl ?_
            try simp only [Act.put, List.setIfInBounds_toArray, List.set_cons_zero, List.set_cons_succ]
            refine tkO 16 (some 86) rfl ?_
            try simp only [Act.put, List.setIfInBounds_toArray, List.set_cons_zero, List.set_cons_succ]
            refine tkO 17 (some 87) rfl ?_
            try simp only [Act.put, List.setIfInBounds_toArray, List.set_cons_zero, List.set_cons_succ]
            refine tkO 18 (some 88) rfl ?_
            try simp only [Act.put, List.setIfInBounds_toArray, List.set_cons_zero, List.set_cons_succ]
            refine tkW 19 (some 89) (v := ?_) rfl ?_ ?_
            rotate_left
            · intro u hSu; have hSa := blkCell (blkOld HCB.out hSu); have hSb := blkCell (blkOld HOB.out hSu); clear hSu; go_simp; (try with_reducible rfl)
            try simp only [Act.put, List.setIfInBounds_toArray, List.set_cons_zero, List.set_cons_succ]
            refine tkW 20 (some 90) (v := ?_) rfl ?_ ?_
            rotate_left
            · intro u hSu; have hSa := blkCell (blkOld HCB.out hSu); have hSb := blkCell (blkOld HOB.out hSu); clear hSu; go_simp; (try with_reducible rfl)
            try simp only [Act.put, List.setIfInBounds_toArray, List.set_cons_zero, List.set_cons_succ]
            refine tkO 21 (some 91) rfl ?_
            try simp only [Act.put, List.setIfInBounds_toArray, List.set_cons_zero, List.set_cons_succ]
            refine tkO 22 (some 92) rfl ?_
            try simp only [Act.put, List.setIfInBounds_toArray, List.set_cons_zero, List.set_cons_succ]
            refine tkO 23 (some 93) rfl ?_
            try simp only [Act.put, List.setIfInBounds_toArray, List.set_cons_zero, List.set_cons_succ]
            refine tkO 24 (some 94) rfl ?_
            try simp only [Act.put, List.setIfInBounds_toArray, List.set_cons_zero, List.set_cons_succ]
            refine tkO 25 (some 95) rfl ?_
            try simp only [Act.put, List.setIfInBounds_toArray, List.set_cons_zero, List.set_cons_succ]
            refine tkO 26 (some 96) rfl ?_
            try simp only [Act.put, List.setIfInBounds_toArray, List.set_cons_zero, List.set_cons_succ]
            refine tkO 27 (some 97) rfl ?_
            try simp only [Act.put, List.setIfInBounds_toArray, List.set_cons_zero, List.set_cons_succ]
            refine tkO 28 (some 98) rfl ?_
            try simp only [Act.put, List.setIfInBounds_toArray, List.set_cons_zero, List.set_cons_succ]
            refine tkO 29 (some 99) rfl ?_
            try simp only [Act.put, List.setIfInBounds_toArray, List.set_cons_zero, List.set_cons_succ]
            refine tkO 30 (some 100) rfl ?_
            try simp only [Act.put, List.setIfInBounds_toArray, List.set_cons_zero, List.set_cons_succ]
            refine tkO 31 (some 101) rfl ?_
            try simp only [Act.put, List.setIfInBounds_toArray, List.set_cons_zero, List.set_cons_succ]
            refine tkO 32 (some 102) rfl ?_
            try simp only [Act.put, List.setIfInBounds_toArray, List.set_cons_zero, List.set_cons_succ]
            refine tkO 33 (some 103) rfl ?_
            try simp only [Act.put, List.setIfInBounds_toArray, List.set_cons_zero, List.set_cons_succ]
            refine tkW 34 (some 104) (v := ?_) rfl ?_ ?_
            rotate_left
            · intro u hSu; have hSa := blkCell (blkOld HCB.out hSu); have hSb := blkCell (blkOld HOB.out hSu); clear hSu; go_simp; (try with_reducible rfl)
            try simp only [Act.put, List.setIfInBounds_toArray, List.set_cons_zero, List.set_cons_succ]
            refine wpAnyH_done (by kernel_rfl) ?_ _
            clear hHeld
            go_wp2_with fail
            go_meet
            case rel => exact ⟨true, rfl, (fun _ => HF.out), (fun h => by cases h), hSn⟩
          by_cases h3 : rows - nu - (di - (cs.length : Int)) - S < ac
          · have HF := Lib.hid (show ¬ P from fun h => by have := HA3.out h; omega)
            clear hg HA1 HA2 HA3 HA4 hkn hgd
            generalize Sp.rightV ⟨ak, an, sa⟩ = g at HP HRI
            have hSn : Below W1.heap.size W1 W1.drew := (Below.refl _ W1).drew
            refine wp_region_held_drew (S := (fun u => Below W1.heap.size W1 u)) (by kernel_rfl) ?_ (fun hHeld => ?_)
            · exact hSn
            generalize W1.drew = w9 at hSn ⊢
            refine tkW 0 (some 70) (v := ?_) rfl ?_ ?_
            rotate_left
            · intro u hSu; have hSa := blkCell (blkOld HCB.out hSu); have hSb := blkCell (blkOld HOB.out hSu); clear hSu; go_simp; (try with_reducible rfl)
            try simp only [Act.put, List.setIfInBounds_toArray, List.set_cons_zero, List.set_cons_succ]
            refine tkV 1 (some 71) (v := .agg #[.int .i64 ak, .int .i64 an, .string sa]) rfl (yieldsIf_load_mid (by rfl) 36 (.tmp 70) rfl go 0 (by rfl) [.int .i64 ak, .int .i64 an, .string sa] _ (fun u hu j v hj => by rw [blkCell (blkOld HOB.out hu)]; rcases j with _ | _ | _ | _ | j <;> simp at hj ⊢ <;> exact hj) Try.underlying36 (by kernel_rfl) (by kernel_rfl)) ?_
            try simp only [Act.put, List.setIfInBounds_toArray, List.set_cons_zero, List.set_cons_succ]
            refine rdH 2 (some 72) rfl (fun K hK => ?_)
            go_simp
            (with_reducible refine (HRI.out _).mono ?_); rintro e w2 ⟨q, rfl, hq, hb2⟩; obtain rfl := q_true hq HP.out; clear hq; have hSm := joinB hSn hb2; clear hSn hb2; have hSn := hSm; clear hSm
            refine hK.out _ _ ?_ (fun hHeld => ?_)
            · exact hSn
            clear hK K
            try simp only [Act.put, List.setIfInBounds_toArray, List.set_cons_zero, List.set_cons_succ]
            refine tkW 3 (some 73) (v := ?_) rfl ?_ ?_
            rotate_left
            · intro u hSu; have hSa := blkCell (blkOld HCB.out hSu); have hSb := blkCell (blkOld HOB.out hSu); clear hSu; go_simp; (try with_reducible rfl)
            try simp only [Act.put, List.setIfInBounds_toArray, List.set_cons_zero, List.set_cons_succ]
            refine tkW 4 (some 74) (v := ?_) rfl ?_ ?_
            rotate_left
            · intro u hSu; have hSa := blkCell (blkOld HCB.out hSu); have hSb := blkCell (blkOld HOB.out hSu); clear hSu; go_simp; (try with_reducible rfl)
            try simp only [Act.put, List.setIfInBounds_toArray, List.set_cons_zero, List.set_cons_succ]
            refine tkW 5 (some 75) (v := ?_) rfl ?_ ?_
            rotate_left
            · intro u hSu; have hSa := blkCell (blkOld HCB.out hSu); have hSb := blkCell (blkOld HOB.out hSu); clear hSu; go_simp; (try with_reducible rfl)
            try simp only [Act.put, List.setIfInBounds_toArray, List.set_cons_zero, List.set_cons_succ]
            refine tkV 6 (some 76) (v := .agg #[.int .i64 ak, .int .i64 an, .string sa]) rfl (yieldsIf_load_mid (by rfl) 36 (.tmp 75) rfl go 0 (by rfl) [.int .i64 ak, .int .i64 an, .string sa] _ (fun u hu j v hj => by rw [blkCell (blkOld HOB.out hu)]; rcases j with _ | _ | _ | _ | j <;> simp at hj ⊢ <;> exact hj) Try.underlying36 (by kernel_rfl) (by kernel_rfl)) ?_
            try simp only [Act.put, List.setIfInBounds_toArray, List.set_cons_zero, List.set_cons_succ]
            refine rdH 7 (some 77) rfl (fun K hK => ?_)
            go_simp
            (with_reducible refine (HNU.out _).mono ?_); rintro e w3 ⟨rfl, hg3⟩; have hSm := joinB hSn hg3.below; clear hSn hg3; have hSn := hSm; clear hSm
            refine hK.out _ _ ?_ (fun hHeld => ?_)
            · exact hSn
            clear hK K
            try simp only [Act.put, List.setIfInBounds_toArray, List.set_cons_zero, List.set_cons_succ]
            refine tkW 8 (some 78) (v := ?_) rfl ?_ ?_
            rotate_left
            · intro u hSu; have hSa := blkCell (blkOld HCB.out hSu); have hSb := blkCell (blkOld HOB.out hSu); clear hSu; go_simp; (try with_reducible rfl)
            try simp only [Act.put, List.setIfInBounds_toArray, List.set_cons_zero, List.set_cons_succ]
            refine tkW 9 (some 79) (v := ?_) rfl ?_ ?_
            rotate_left
            · intro u hSu; have hSa := blkCell (blkOld HCB.out hSu); have hSb := blkCell (blkOld HOB.out hSu); clear hSu; go_simp; (try with_reducible rfl)
            try simp only [Act.put, List.setIfInBounds_toArray, List.set_cons_zero, List.set_cons_succ]
            refine tkW 10 (some 80) (v := ?_) rfl ?_ ?_
            rotate_left
            · intro u hSu; have hSa := blkCell (blkOld HCB.out hSu); have hSb := blkCell (blkOld HOB.out hSu); clear hSu; go_simp; (try with_reducible rfl)
            try simp only [Act.put, List.setIfInBounds_toArray, List.set_cons_zero, List.set_cons_succ]
            refine tkW 11 (some 81) (v := ?_) rfl ?_ ?_
            rotate_left
            · intro u hSu; have hSa := blkCell (blkOld HCB.out hSu); have hSb := blkCell (blkOld HOB.out hSu); clear hSu; go_simp; (try with_reducible rfl)
            try simp only [Act.put, List.setIfInBounds_toArray, List.set_cons_zero, List.set_cons_succ]
            refine tkW 12 (some 82) (v := ?_) rfl ?_ ?_
            rotate_left
            · intro u hSu; have hSa := blkCell (blkOld HCB.out hSu); have hSb := blkCell (blkOld HOB.out hSu); clear hSu; go_simp; (try with_reducible rfl)
            try simp only [Act.put, List.setIfInBounds_toArray, List.set_cons_zero, List.set_cons_succ]
            refine tkW 13 (some 83) (v := ?_) rfl ?_ ?_
            rotate_left
            · intro u hSu; have hSa := blkCell (blkOld HCB.out hSu); have hSb := blkCell (blkOld HOB.out hSu); clear hSu; go_simp; (try with_reducible rfl)
            try simp only [Act.put, List.setIfInBounds_toArray, List.set_cons_zero, List.set_cons_succ]
            refine tkW 14 (some 84) (v := ?_) rfl ?_ ?_
            rotate_left
            · intro u hSu; have hSa := blkCell (blkOld HCB.out hSu); have hSb := blkCell (blkOld HOB.out hSu); clear hSu; go_simp; (try with_reducible rfl)
            try simp only [Act.put, List.setIfInBounds_toArray, List.set_cons_zero, List.set_cons_succ]
            refine tkW 15 (some 85) (v := ?_) rfl ?_ ?_
            rotate_left
            · intro u hSu; have hSa := blkCell (blkOld HCB.out hSu); have hSb := blkCell (blkOld HOB.out hSu); clear hSu; go_simp; (try with_reducible rfl)
            try simp only [Act.put, List.setIfInBounds_toArray, List.set_cons_zero, List.set_cons_succ]
            refine tkW 16 (some 86) (v := ?_) rfl ?_ ?_
            rotate_left
            · intro u hSu; have hSa := blkCell (blkOld HCB.out hSu); have hSb := blkCell (blkOld HOB.out hSu); clear hSu; go_simp; (try with_reducible rfl)
            try simp only [Act.put, List.setIfInBounds_toArray, List.set_cons_zero, List.set_cons_succ]
            refine tkW 17 (some 87) (v := ?_) rfl ?_ ?_
            rotate_left
            · intro u hSu; have hSa := blkCell (blkOld HCB.out hSu); have hSb := blkCell (blkOld HOB.out hSu); clear hSu; go_simp; (try with_reducible rfl)
            try simp only [Act.put, List.setIfInBounds_toArray, List.set_cons_zero, List.set_cons_succ]
            refine tkW 18 (some 88) (v := ?_) rfl ?_ ?_
            rotate_left
            · intro u hSu; have hSa := blkCell (blkOld HCB.out hSu); have hSb := blkCell (blkOld HOB.out hSu); clear hSu; go_simp; (try with_reducible rfl)
            try simp only [Act.put, List.setIfInBounds_toArray, List.set_cons_zero, List.set_cons_succ]
            refine tkW 19 (some 89) (v := ?_) rfl ?_ ?_
            rotate_left
            · intro u hSu; have hSa := blkCell (blkOld HCB.out hSu); have hSb := blkCell (blkOld HOB.out hSu); clear hSu; go_simp; (try with_reducible rfl)
            try simp only [Act.put, List.setIfInBounds_toArray, List.set_cons_zero, List.set_cons_succ]
            refine tkW 20 (some 90) (v := ?_) rfl ?_ ?_
            rotate_left
            · intro u hSu; have hSa := blkCell (blkOld HCB.out hSu); have hSb := blkCell (blkOld HOB.out hSu); clear hSu; go_simp; (try with_reducible rfl)
            try simp only [Act.put, List.setIfInBounds_toArray, List.set_cons_zero, List.set_cons_succ]
            refine tkO 21 (some 91) rfl ?_
            try simp only [Act.put, List.setIfInBounds_toArray, List.set_cons_zero, List.set_cons_succ]
            refine tkO 22 (some 92) rfl ?_
            try simp only [Act.put, List.setIfInBounds_toArray, List.set_cons_zero, List.set_cons_succ]
            refine tkO 23 (some 93) rfl ?_
            try simp only [Act.put, List.setIfInBounds_toArray, List.set_cons_zero, List.set_cons_succ]
            refine tkO 24 (some 94) rfl ?_
            try simp only [Act.put, List.setIfInBounds_toArray, List.set_cons_zero, List.set_cons_succ]
            refine tkO 25 (some 95) rfl ?_
            try simp only [Act.put, List.setIfInBounds_toArray, List.set_cons_zero, List.set_cons_succ]
            refine tkO 26 (some 96) rfl ?_
            try simp only [Act.put, List.setIfInBounds_toArray, List.set_cons_zero, List.set_cons_succ]
            refine tkO 27 (some 97) rfl ?_
            try simp only [Act.put, List.setIfInBounds_toArray, List.set_cons_zero, List.set_cons_succ]
            refine tkO 28 (some 98) rfl ?_
            try simp only [Act.put, List.setIfInBounds_toArray, List.set_cons_zero, List.set_cons_succ]
            refine tkO 29 (some 99) rfl ?_
            try simp only [Act.put, List.setIfInBounds_toArray, List.set_cons_zero, List.set_cons_succ]
            refine tkO 30 (some 100) rfl ?_
            try simp only [Act.put, List.setIfInBounds_toArray, List.set_cons_zero, List.set_cons_succ]
            refine tkO 31 (some 101) rfl ?_
            try simp only [Act.put, List.setIfInBounds_toArray, List.set_cons_zero, List.set_cons_succ]
            refine tkO 32 (some 102) rfl ?_
            try simp only [Act.put, List.setIfInBounds_toArray, List.set_cons_zero, List.set_cons_succ]
            refine tkO 33 (some 103) rfl ?_
            try simp only [Act.put, List.setIfInBounds_toArray, List.set_cons_zero, List.set_cons_succ]
            refine tkW 34 (some 104) (v := ?_) rfl ?_ ?_
            rotate_left
            · intro u hSu; have hSa := blkCell (blkOld HCB.out hSu); have hSb := blkCell (blkOld HOB.out hSu); clear hSu; go_simp; (try with_reducible rfl)
            try simp only [Act.put, List.setIfInBounds_toArray, List.set_cons_zero, List.set_cons_succ]
            refine wpAnyH_done (by kernel_rfl) ?_ _
            clear hHeld
            go_wp2_with fail
            go_meet
            case rel => exact ⟨true, rfl, (fun _ => HF.out), (fun h => by cases h), hSn⟩
          by_cases h0 : k = 0
          · have HF := Lib.hid (show Sp.goodV ⟨ak, an, sa⟩ ∧ 2 ≤ ac ∧ ac ≤ rows - nu - (di - (cs.length : Int)) - S ∧ (∀ h : 0 < k, Sp.ordO (cs[k - 1]'hkm) ⟨⟨ak, an, sa⟩, ac⟩ < 0) from ⟨hgd, by omega, by omega, fun h => absurd h (by omega)⟩)
            have h0i : ¬ (0 : Int) < (k : Int) := by omega
            have h0d : decide (0 < k) = false := decide_eq_false (by omega)
            clear hg HA1 HA2 HA3 HA4 hkn hgd h0
            generalize Sp.rightV ⟨ak, an, sa⟩ = g at HP HRI
            have hSn : Below W1.heap.size W1 W1.drew := (Below.refl _ W1).drew
            refine wp_region_held_drew (S := (fun u => Below W1.heap.size W1 u)) (by kernel_rfl) ?_ (fun hHeld => ?_)
            · exact hSn
            generalize W1.drew = w9 at hSn ⊢
            refine tkW 0 (some 70) (v := ?_) rfl ?_ ?_
            rotate_left
            · intro u hSu; have hSa := blkCell (blkOld HCB.out hSu); have hSb := blkCell (blkOld HOB.out hSu); clear hSu; go_simp; (try with_reducible rfl)
            try simp only [Act.put, List.setIfInBounds_toArray, List.set_cons_zero, List.set_cons_succ]
            refine tkV 1 (some 71) (v := .agg #[.int .i64 ak, .int .i64 an, .string sa]) rfl (yieldsIf_load_mid (by rfl) 36 (.tmp 70) rfl go 0 (by rfl) [.int .i64 ak, .int .i64 an, .string sa] _ (fun u hu j v hj => by rw [blkCell (blkOld HOB.out hu)]; rcases j with _ | _ | _ | _ | j <;> simp at hj ⊢ <;> exact hj) Try.underlying36 (by kernel_rfl) (by kernel_rfl)) ?_
            try simp only [Act.put, List.setIfInBounds_toArray, List.set_cons_zero, List.set_cons_succ]
            refine rdH 2 (some 72) rfl (fun K hK => ?_)
            go_simp
            (with_reducible refine (HRI.out _).mono ?_); rintro e w2 ⟨q, rfl, hq, hb2⟩; obtain rfl := q_true hq HP.out; clear hq; have hSm := joinB hSn hb2; clear hSn hb2; have hSn := hSm; clear hSm
            refine hK.out _ _ ?_ (fun hHeld => ?_)
            · exact hSn
            clear hK K
            try simp only [Act.put, List.setIfInBounds_toArray, List.set_cons_zero, List.set_cons_succ]
            refine tkW 3 (some 73) (v := ?_) rfl ?_ ?_
            rotate_left
            · intro u hSu; have hSa := blkCell (blkOld HCB.out hSu); have hSb := blkCell (blkOld HOB.out hSu); clear hSu; go_simp; (try with_reducible rfl)
            try simp only [Act.put, List.setIfInBounds_toArray, List.set_cons_zero, List.set_cons_succ]
            refine tkW 4 (some 74) (v := ?_) rfl ?_ ?_
            rotate_left
            · intro u hSu; have hSa := blkCell (blkOld HCB.out hSu); have hSb := blkCell (blkOld HOB.out hSu); clear hSu; go_simp; (try with_reducible rfl)
            try simp only [Act.put, List.setIfInBounds_toArray, List.set_cons_zero, List.set_cons_succ]
            refine tkW 5 (some 75) (v := ?_) rfl ?_ ?_
            rotate_left
            · intro u hSu; have hSa := blkCell (blkOld HCB.out hSu); have hSb := blkCell (blkOld HOB.out hSu); clear hSu; go_simp; (try with_reducible rfl)
            try simp only [Act.put, List.setIfInBounds_toArray, List.set_cons_zero, List.set_cons_succ]
            refine tkV 6 (some 76) (v := .agg #[.int .i64 ak, .int .i64 an, .string sa]) rfl (yieldsIf_load_mid (by rfl) 36 (.tmp 75) rfl go 0 (by rfl) [.int .i64 ak, .int .i64 an, .string sa] _ (fun u hu j v hj => by rw [blkCell (blkOld HOB.out hu)]; rcases j with _ | _ | _ | _ | j <;> simp at hj ⊢ <;> exact hj) Try.underlying36 (by kernel_rfl) (by kernel_rfl)) ?_
            try simp only [Act.put, List.setIfInBounds_toArray, List.set_cons_zero, List.set_cons_succ]
            refine rdH 7 (some 77) rfl (fun K hK => ?_)
            go_simp
            (with_reducible refine (HNU.out _).mono ?_); rintro e w3 ⟨rfl, hg3⟩; have hSm := joinB hSn hg3.below; clear hSn hg3; have hSn := hSm; clear hSm
            refine hK.out _ _ ?_ (fun hHeld => ?_)
            · exact hSn
            clear hK K
            try simp only [Act.put, List.setIfInBounds_toArray, List.set_cons_zero, List.set_cons_succ]
            refine tkW 8 (some 78) (v := ?_) rfl ?_ ?_
            rotate_left
            · intro u hSu; have hSa := blkCell (blkOld HCB.out hSu); have hSb := blkCell (blkOld HOB.out hSu); clear hSu; go_simp; (try with_reducible rfl)
            try simp only [Act.put, List.setIfInBounds_toArray, List.set_cons_zero, List.set_cons_succ]
            refine tkW 9 (some 79) (v := ?_) rfl ?_ ?_
            rotate_left
            · intro u hSu; have hSa := blkCell (blkOld HCB.out hSu); have hSb := blkCell (blkOld HOB.out hSu); clear hSu; go_simp; (try with_reducible rfl)
            try simp only [Act.put, List.setIfInBounds_toArray, List.set_cons_zero, List.set_cons_succ]
            refine tkW 10 (some 80) (v := ?_) rfl ?_ ?_
            rotate_left
            · intro u hSu; have hSa := blkCell (blkOld HCB.out hSu); have hSb := blkCell (blkOld HOB.out hSu); clear hSu; go_simp; (try with_reducible rfl)
            try simp only [Act.put, List.setIfInBounds_toArray, List.set_cons_zero, List.set_cons_succ]
            refine tkW 11 (some 81) (v := ?_) rfl ?_ ?_
            rotate_left
            · intro u hSu; have hSa := blkCell (blkOld HCB.out hSu); have hSb := blkCell (blkOld HOB.out hSu); clear hSu; go_simp; (try with_reducible rfl)
            try simp only [Act.put, List.setIfInBounds_toArray, List.set_cons_zero, List.set_cons_succ]
            refine tkW 12 (some 82) (v := ?_) rfl ?_ ?_
            rotate_left
            · intro u hSu; have hSa := blkCell (blkOld HCB.out hSu); have hSb := blkCell (blkOld HOB.out hSu); clear hSu; go_simp; (try with_reducible rfl)
            try simp only [Act.put, List.setIfInBounds_toArray, List.set_cons_zero, List.set_cons_succ]
            refine tkW 13 (some 83) (v := ?_) rfl ?_ ?_
            rotate_left
            · intro u hSu; have hSa := blkCell (blkOld HCB.out hSu); have hSb := blkCell (blkOld HOB.out hSu); clear hSu; go_simp; (try with_reducible rfl)
            try simp only [Act.put, List.setIfInBounds_toArray, List.set_cons_zero, List.set_cons_succ]
            refine tkW 14 (some 84) (v := ?_) rfl ?_ ?_
            rotate_left
            · intro u hSu; have hSa := blkCell (blkOld HCB.out hSu); have hSb := blkCell (blkOld HOB.out hSu); clear hSu; go_simp; (try with_reducible rfl)
            try simp only [Act.put, List.setIfInBounds_toArray, List.set_cons_zero, List.set_cons_succ]
            refine tkW 15 (some 85) (v := ?_) rfl ?_ ?_
            rotate_left
            · intro u hSu; have hSa := blkCell (blkOld HCB.out hSu); have hSb := blkCell (blkOld HOB.out hSu); clear hSu; go_simp; (try with_reducible rfl)
            try simp only [Act.put, List.setIfInBounds_toArray, List.set_cons_zero, List.set_cons_succ]
            refine tkW 16 (some 86) (v := ?_) rfl ?_ ?_
            rotate_left
            · intro u hSu; have hSa := blkCell (blkOld HCB.out hSu); have hSb := blkCell (blkOld HOB.out hSu); clear hSu; go_simp; (try with_reducible rfl)
            try simp only [Act.put, List.setIfInBounds_toArray, List.set_cons_zero, List.set_cons_succ]
            refine tkW 17 (some 87) (v := ?_) rfl ?_ ?_
            rotate_left
            · intro u hSu; have hSa := blkCell (blkOld HCB.out hSu); have hSb := blkCell (blkOld HOB.out hSu); clear hSu; go_simp; (try with_reducible rfl)
            try simp only [Act.put, List.setIfInBounds_toArray, List.set_cons_zero, List.set_cons_succ]
            refine tkW 18 (some 88) (v := ?_) rfl ?_ ?_
            rotate_left
            · intro u hSu; have hSa := blkCell (blkOld HCB.out hSu); have hSb := blkCell (blkOld HOB.out hSu); clear hSu; go_simp; (try with_reducible rfl)
            try simp only [Act.put, List.setIfInBounds_toArray, List.set_cons_zero, List.set_cons_succ]
            refine tkW 19 (some 89) (v := ?_) rfl ?_ ?_
            rotate_left
            · intro u hSu; have hSa := blkCell (blkOld HCB.out hSu); have hSb := blkCell (blkOld HOB.out hSu); clear hSu; go_simp; (try with_reducible rfl)
            try simp only [Act.put, List.setIfInBounds_toArray, List.set_cons_zero, List.set_cons_succ]
            refine tkW 20 (some 90) (v := ?_) rfl ?_ ?_
            rotate_left
            · intro u hSu; have hSa := blkCell (blkOld HCB.out hSu); have hSb := blkCell (blkOld HOB.out hSu); clear hSu; go_simp; (try with_reducible rfl)
            try simp only [Act.put, List.setIfInBounds_toArray, List.set_cons_zero, List.set_cons_succ]
            refine tkW 21 (some 91) (v := ?_) rfl ?_ ?_
            rotate_left
            · intro u hSu; have hSa := blkCell (blkOld HCB.out hSu); have hSb := blkCell (blkOld HOB.out hSu); clear hSu; go_simp; (try with_reducible rfl)
            try simp only [Act.put, List.setIfInBounds_toArray, List.set_cons_zero, List.set_cons_succ]
            refine tkW 22 (some 92) (v := ?_) rfl ?_ ?_
            rotate_left
            · intro u hSu; have hSa := blkCell (blkOld HCB.out hSu); have hSb := blkCell (blkOld HOB.out hSu); clear hSu; go_simp; (try with_reducible rfl)
            try simp only [Act.put, List.setIfInBounds_toArray, List.set_cons_zero, List.set_cons_succ]
            refine tkW 23 (some 93) (v := ?_) rfl ?_ ?_
            rotate_left
            · intro u hSu; have hSa := blkCell (blkOld HCB.out hSu); have hSb := blkCell (blkOld HOB.out hSu); clear hSu; go_simp; (try with_reducible rfl)
            try simp only [Act.put, List.setIfInBounds_toArray, List.set_cons_zero, List.set_cons_succ]
            refine tkO 24 (some 94) rfl ?_
            try simp only [Act.put, List.setIfInBounds_toArray, List.set_cons_zero, List.set_cons_succ]
            refine tkO 25 (some 95) rfl ?_
            try simp only [Act.put, List.setIfInBounds_toArray, List.set_cons_zero, List.set_cons_succ]
            refine tkO 26 (some 96) rfl ?_
            try simp only [Act.put, List.setIfInBounds_toArray, List.set_cons_zero, List.set_cons_succ]
            refine tkO 27 (some 97) rfl ?_
            try simp only [Act.put, List.setIfInBounds_toArray, List.set_cons_zero, List.set_cons_succ]
            refine tkO 28 (some 98) rfl ?_
            try simp only [Act.put, List.setIfInBounds_toArray, List.set_cons_zero, List.set_cons_succ]
            refine tkO 29 (some 99) rfl ?_
            try simp only [Act.put, List.setIfInBounds_toArray, List.set_cons_zero, List.set_cons_succ]
            refine tkO 30 (some 100) rfl ?_
            try simp only [Act.put, List.setIfInBounds_toArray, List.set_cons_zero, List.set_cons_succ]
            refine tkO 31 (some 101) rfl ?_
            try simp only [Act.put, List.setIfInBounds_toArray, List.set_cons_zero, List.set_cons_succ]
            refine tkO 32 (some 102) rfl ?_
            try simp only [Act.put, List.setIfInBounds_toArray, List.set_cons_zero, List.set_cons_succ]
            refine tkW 33 (some 103) (v := ?_) rfl ?_ ?_
            rotate_left
            · intro u hSu; have hSa := blkCell (blkOld HCB.out hSu); have hSb := blkCell (blkOld HOB.out hSu); clear hSu; go_simp; (try with_reducible rfl)
            try simp only [Act.put, List.setIfInBounds_toArray, List.set_cons_zero, List.set_cons_succ]
            refine tkW 34 (some 104) (v := ?_) rfl ?_ ?_
            rotate_left
            · intro u hSu; have hSa := blkCell (blkOld HCB.out hSu); have hSb := blkCell (blkOld HOB.out hSu); clear hSu; go_simp; (try with_reducible rfl)
            try simp only [Act.put, List.setIfInBounds_toArray, List.set_cons_zero, List.set_cons_succ]
            refine wpAnyH_done (by kernel_rfl) ?_ _
            clear hHeld
            go_wp2_with fail
            go_meet
            case rel => exact ⟨false, rfl, (fun h => by cases h), (fun _ => HF.out), hSn⟩
          have hkp : 0 < k := by omega
          have HYR := Lib.hid (HKJ.out (k - 1) hkm)
          have HMO := Lib.hid (fun W => more_any cs[k - 1] ⟨⟨ak, an, sa⟩, ac⟩ HVM.out.s HVB.out.s W)
          have HUP := Lib.hid (show P → Sp.ordO cs[k - 1] ⟨⟨ak, an, sa⟩, ac⟩ < 0 from fun h => HA4.out h hkp)
          have HUQ := Lib.hid (show Sp.ordO cs[k - 1] ⟨⟨ak, an, sa⟩, ac⟩ < 0 → Sp.goodV ⟨ak, an, sa⟩ ∧ 2 ≤ ac ∧ ac ≤ rows - nu - (di - (cs.length : Int)) - S ∧ (∀ h : 0 < k, Sp.ordO (cs[k - 1]'hkm) ⟨⟨ak, an, sa⟩, ac⟩ < 0) from fun h => ⟨hgd, by omega, by omega, fun _ => h⟩)
          obtain ⟨y, hy⟩ : ∃ y, y = cs[k - 1] := ⟨_, rfl⟩
          rw [← hy] at HYR HMO
          obtain ⟨o, ho⟩ : ∃ o, o = Sp.ordO y ⟨⟨ak, an, sa⟩, ac⟩ := ⟨_, rfl⟩
          rw [← ho] at HMO
          have HUP2 := Lib.hid (show P → o < 0 from fun h => by rw [ho, hy]; exact HUP.out h)
          have HUQ2 := Lib.hid (show o < 0 → _ from fun h => HUQ.out (by rw [ho, hy] at h; exact h))
          clear hy ho HUP HUQ
          obtain ⟨⟨bk, bn, sb⟩, bc⟩ := y
          have HYR2 := Lib.hid (show ∀ u, Below W1.heap.size W1 u → u.rangeAt b (off + (k - 1) * 4) [.int .i64 bk, .int .i64 bn, .string sb, .int .i64 bc] from fun u hu => HYR.out u (joinB HBW.out hu))
          clear HYR
          dsimp only [oftA] at HMO
          have h0i : (0 : Int) < (k : Int) := by omega
          have h0d : decide (0 < k) = true := decide_eq_true hkp
          have hw1 : IntKind.i64.wrap ((k : Int) - 1) = ((k - 1 : Nat) : Int) := by rw [show (k : Int) - 1 = ((k - 1 : Nat) : Int) by omega]; exact IntWalk.i64_in _ (by omega)
          have hw2 : (0 : Int) ≤ ((k - 1 : Nat) : Int) := by omega
          have hw3 : ((k - 1 : Nat) : Int) < (cs.length : Int) := by omega
          obtain ⟨m, hm⟩ : ∃ m, m = k - 1 := ⟨_, rfl⟩
          rw [← hm] at hw1 hw2 hw3 HYR2
          clear hm hg HA1 HA2 HA3 HA4 hkp h0 hkn hgd
          by_cases ho : o < 0
          · have HF := Lib.hid (HUQ2.out ho)
            rw [decide_eq_true ho] at HMO
            clear HUP2 HUQ2
            generalize Sp.rightV ⟨ak, an, sa⟩ = g at HP HRI
            have hSn : Below W1.heap.size W1 W1.drew := (Below.refl _ W1).drew
            refine wp_region_held_drew (S := (fun u => Below W1.heap.size W1 u)) (by kernel_rfl) ?_ (fun hHeld => ?_)
            · exact hSn
            generalize W1.drew = w9 at hSn ⊢
            refine tkW 0 (some 70) (v := ?_) rfl ?_ ?_
            rotate_left
            · intro u hSu; have hSa := blkCell (blkOld HCB.out hSu); have hSb := blkCell (blkOld HOB.out hSu); clear hSu; go_simp; (try with_reducible rfl)
            try simp only [Act.put, List.setIfInBounds_toArray, List.set_cons_zero, List.set_cons_succ]
            refine tkV 1 (some 71) (v := .agg #[.int .i64 ak, .int .i64 an, .string sa]) rfl (yieldsIf_load_mid (by rfl) 36 (.tmp 70) rfl go 0 (by rfl) [.int .i64 ak, .int .i64 an, .string sa] _ (fun u hu j v hj => by rw [blkCell (blkOld HOB.out hu)]; rcases j with _ | _ | _ | _ | j <;> simp at hj ⊢ <;> exact hj) Try.underlying36 (by kernel_rfl) (by kernel_rfl)) ?_
            try simp only [Act.put, List.setIfInBounds_toArray, List.set_cons_zero, List.set_cons_succ]
            refine rdH 2 (some 72) rfl (fun K hK => ?_)
            go_simp
            (with_reducible refine (HRI.out _).mono ?_); rintro e w2 ⟨q, rfl, hq, hb2⟩; obtain rfl := q_true hq HP.out; clear hq; have hSm := joinB hSn hb2; clear hSn hb2; have hSn := hSm; clear hSm
            refine hK.out _ _ ?_ (fun hHeld => ?_)
            · exact hSn
            clear hK K
            try simp only [Act.put, List.setIfInBounds_toArray, List.set_cons_zero, List.set_cons_succ]
            refine tkW 3 (some 73) (v := ?_) rfl ?_ ?_
            rotate_left
            · intro u hSu; have hSa := blkCell (blkOld HCB.out hSu); have hSb := blkCell (blkOld HOB.out hSu); clear hSu; go_simp; (try with_reducible rfl)
            try simp only [Act.put, List.setIfInBounds_toArray, List.set_cons_zero, List.set_cons_succ]
            refine tkW 4 (some 74) (v := ?_) rfl ?_ ?_
            rotate_left
            · intro u hSu; have hSa := blkCell (blkOld HCB.out hSu); have hSb := blkCell (blkOld HOB.out hSu); clear hSu; go_simp; (try with_reducible rfl)
            try simp only [Act.put, List.setIfInBounds_toArray, List.set_cons_zero, List.set_cons_succ]
            refine tkW 5 (some 75) (v := ?_) rfl ?_ ?_
            rotate_left
            · intro u hSu; have hSa := blkCell (blkOld HCB.out hSu); have hSb := blkCell (blkOld HOB.out hSu); clear hSu; go_simp; (try with_reducible rfl)
            try simp only [Act.put, List.setIfInBounds_toArray, List.set_cons_zero, List.set_cons_succ]
            refine tkV 6 (some 76) (v := .agg #[.int .i64 ak, .int .i64 an, .string sa]) rfl (yieldsIf_load_mid (by rfl) 36 (.tmp 75) rfl go 0 (by rfl) [.int .i64 ak, .int .i64 an, .string sa] _ (fun u hu j v hj => by rw [blkCell (blkOld HOB.out hu)]; rcases j with _ | _ | _ | _ | j <;> simp at hj ⊢ <;> exact hj) Try.underlying36 (by kernel_rfl) (by kernel_rfl)) ?_
            try simp only [Act.put, List.setIfInBounds_toArray, List.set_cons_zero, List.set_cons_succ]
            refine rdH 7 (some 77) rfl (fun K hK => ?_)
            go_simp
            (with_reducible refine (HNU.out _).mono ?_); rintro e w3 ⟨rfl, hg3⟩; have hSm := joinB hSn hg3.below; clear hSn hg3; have hSn := hSm; clear hSm
            refine hK.out _ _ ?_ (fun hHeld => ?_)
            · exact hSn
            clear hK K
            try simp only [Act.put, List.setIfInBounds_toArray, List.set_cons_zero, List.set_cons_succ]
            refine tkW 8 (some 78) (v := ?_) rfl ?_ ?_
            rotate_left
            · intro u hSu; have hSa := blkCell (blkOld HCB.out hSu); have hSb := blkCell (blkOld HOB.out hSu); clear hSu; go_simp; (try with_reducible rfl)
            try simp only [Act.put, List.setIfInBounds_toArray, List.set_cons_zero, List.set_cons_succ]
            refine tkW 9 (some 79) (v := ?_) rfl ?_ ?_
            rotate_left
            · intro u hSu; have hSa := blkCell (blkOld HCB.out hSu); have hSb := blkCell (blkOld HOB.out hSu); clear hSu; go_simp; (try with_reducible rfl)
            try simp only [Act.put, List.setIfInBounds_toArray, List.set_cons_zero, List.set_cons_succ]
            refine tkW 10 (some 80) (v := ?_) rfl ?_ ?_
            rotate_left
            · intro u hSu; have hSa := blkCell (blkOld HCB.out hSu); have hSb := blkCell (blkOld HOB.out hSu); clear hSu; go_simp; (try with_reducible rfl)
            try simp only [Act.put, List.setIfInBounds_toArray, List.set_cons_zero, List.set_cons_succ]
            refine tkW 11 (some 81) (v := ?_) rfl ?_ ?_
            rotate_left
            · intro u hSu; have hSa := blkCell (blkOld HCB.out hSu); have hSb := blkCell (blkOld HOB.out hSu); clear hSu; go_simp; (try with_reducible rfl)
            try simp only [Act.put, List.setIfInBounds_toArray, List.set_cons_zero, List.set_cons_succ]
            refine tkW 12 (some 82) (v := ?_) rfl ?_ ?_
            rotate_left
            · intro u hSu; have hSa := blkCell (blkOld HCB.out hSu); have hSb := blkCell (blkOld HOB.out hSu); clear hSu; go_simp; (try with_reducible rfl)
            try simp only [Act.put, List.setIfInBounds_toArray, List.set_cons_zero, List.set_cons_succ]
            refine tkW 13 (some 83) (v := ?_) rfl ?_ ?_
            rotate_left
            · intro u hSu; have hSa := blkCell (blkOld HCB.out hSu); have hSb := blkCell (blkOld HOB.out hSu); clear hSu; go_simp; (try with_reducible rfl)
            try simp only [Act.put, List.setIfInBounds_toArray, List.set_cons_zero, List.set_cons_succ]
            refine tkW 14 (some 84) (v := ?_) rfl ?_ ?_
            rotate_left
            · intro u hSu; have hSa := blkCell (blkOld HCB.out hSu); have hSb := blkCell (blkOld HOB.out hSu); clear hSu; go_simp; (try with_reducible rfl)
            try simp only [Act.put, List.setIfInBounds_toArray, List.set_cons_zero, List.set_cons_succ]
            refine tkW 15 (some 85) (v := ?_) rfl ?_ ?_
            rotate_left
            · intro u hSu; have hSa := blkCell (blkOld HCB.out hSu); have hSb := blkCell (blkOld HOB.out hSu); clear hSu; go_simp; (try with_reducible rfl)
            try simp only [Act.put, List.setIfInBounds_toArray, List.set_cons_zero, List.set_cons_succ]
            refine tkW 16 (some 86) (v := ?_) rfl ?_ ?_
            rotate_left
            · intro u hSu; have hSa := blkCell (blkOld HCB.out hSu); have hSb := blkCell (blkOld HOB.out hSu); clear hSu; go_simp; (try with_reducible rfl)
            try simp only [Act.put, List.setIfInBounds_toArray, List.set_cons_zero, List.set_cons_succ]
            refine tkW 17 (some 87) (v := ?_) rfl ?_ ?_
            rotate_left
            · intro u hSu; have hSa := blkCell (blkOld HCB.out hSu); have hSb := blkCell (blkOld HOB.out hSu); clear hSu; go_simp; (try with_reducible rfl)
            try simp only [Act.put, List.setIfInBounds_toArray, List.set_cons_zero, List.set_cons_succ]
            refine tkW 18 (some 88) (v := ?_) rfl ?_ ?_
            rotate_left
            · intro u hSu; have hSa := blkCell (blkOld HCB.out hSu); have hSb := blkCell (blkOld HOB.out hSu); clear hSu; go_simp; (try with_reducible rfl)
            try simp only [Act.put, List.setIfInBounds_toArray, List.set_cons_zero, List.set_cons_succ]
            refine tkW 19 (some 89) (v := ?_) rfl ?_ ?_
            rotate_left
            · intro u hSu; have hSa := blkCell (blkOld HCB.out hSu); have hSb := blkCell (blkOld HOB.out hSu); clear hSu; go_simp; (try with_reducible rfl)
            try simp only [Act.put, List.setIfInBounds_toArray, List.set_cons_zero, List.set_cons_succ]
            refine tkW 20 (some 90) (v := ?_) rfl ?_ ?_
            rotate_left
            · intro u hSu; have hSa := blkCell (blkOld HCB.out hSu); have hSb := blkCell (blkOld HOB.out hSu); clear hSu; go_simp; (try with_reducible rfl)
            try simp only [Act.put, List.setIfInBounds_toArray, List.set_cons_zero, List.set_cons_succ]
            refine tkW 21 (some 91) (v := ?_) rfl ?_ ?_
            rotate_left
            · intro u hSu; have hSa := blkCell (blkOld HCB.out hSu); have hSb := blkCell (blkOld HOB.out hSu); clear hSu; go_simp; (try with_reducible rfl)
            try simp only [Act.put, List.setIfInBounds_toArray, List.set_cons_zero, List.set_cons_succ]
            refine tkW 22 (some 92) (v := ?_) rfl ?_ ?_
            rotate_left
            · intro u hSu; have hSa := blkCell (blkOld HCB.out hSu); have hSb := blkCell (blkOld HOB.out hSu); clear hSu; go_simp; (try with_reducible rfl)
            try simp only [Act.put, List.setIfInBounds_toArray, List.set_cons_zero, List.set_cons_succ]
            refine tkW 23 (some 93) (v := ?_) rfl ?_ ?_
            rotate_left
            · intro u hSu; have hSa := blkCell (blkOld HCB.out hSu); have hSb := blkCell (blkOld HOB.out hSu); clear hSu; go_simp; (try with_reducible rfl)
            try simp only [Act.put, List.setIfInBounds_toArray, List.set_cons_zero, List.set_cons_succ]
            refine tkW 24 (some 94) (v := ?_) rfl ?_ ?_
            rotate_left
            · intro u hSu; have hSa := blkCell (blkOld HCB.out hSu); have hSb := blkCell (blkOld HOB.out hSu); clear hSu; go_simp; (try with_reducible rfl)
            try simp only [Act.put, List.setIfInBounds_toArray, List.set_cons_zero, List.set_cons_succ]
            refine tkW 25 (some 95) (v := ?_) rfl ?_ ?_
            rotate_left
            · intro u hSu; have hSa := blkCell (blkOld HCB.out hSu); have hSb := blkCell (blkOld HOB.out hSu); clear hSu; go_simp; (try with_reducible rfl)
            try simp only [Act.put, List.setIfInBounds_toArray, List.set_cons_zero, List.set_cons_succ]
            refine tkW 26 (some 96) (v := ?_) rfl ?_ ?_
            rotate_left
            · intro u hSu; have hSa := blkCell (blkOld HCB.out hSu); have hSb := blkCell (blkOld HOB.out hSu); clear hSu; go_simp; (try with_reducible rfl)
            try simp only [Act.put, List.setIfInBounds_toArray, List.set_cons_zero, List.set_cons_succ]
            refine tkW 27 (some 97) (v := ?_) rfl ?_ ?_
            rotate_left
            · intro u hSu; have hSa := blkCell (blkOld HCB.out hSu); have hSb := blkCell (blkOld HOB.out hSu); clear hSu; go_simp; (try with_reducible rfl)
            try simp only [Act.put, List.setIfInBounds_toArray, List.set_cons_zero, List.set_cons_succ]
            refine tkW 28 (some 98) (v := ?_) rfl ?_ ?_
            rotate_left
            · intro u hSu; have hSa := blkCell (blkOld HCB.out hSu); have hSb := blkCell (blkOld HOB.out hSu); clear hSu; go_simp; (try with_reducible rfl)
            try simp only [Act.put, List.setIfInBounds_toArray, List.set_cons_zero, List.set_cons_succ]
            refine tkV 29 (some 99) (v := .agg #[.int .i64 bk, .int .i64 bn, .string sb, .int .i64 bc]) rfl (yieldsIf_load_mid (by rfl) 48 (.tmp 98) rfl b (off + m * 4) (by rfl) [.int .i64 bk, .int .i64 bn, .string sb, .int .i64 bc] _ HYR2.out Try.underlying48 (by kernel_rfl) (by kernel_rfl)) ?_
            try simp only [Act.put, List.setIfInBounds_toArray, List.set_cons_zero, List.set_cons_succ]
            refine tkV 30 (some 100) (v := .agg #[.int .i64 ak, .int .i64 an, .string sa, .int .i64 ac]) rfl (yieldsIf_load_mid (by rfl) 48 (.tmp 7) rfl go 0 (by rfl) #[.int .i64 ak, .int .i64 an, .string sa, .int .i64 ac].toList _ (fun u hu => (by intro j v hj; rw [Nat.zero_add, blkCell (blkOld HOB.out hu)]; simpa using hj)) Try.underlying48 (by kernel_rfl) (by kernel_rfl)) ?_
            try simp only [Act.put, List.setIfInBounds_toArray, List.set_cons_zero, List.set_cons_succ]
            refine rdH 31 (some 101) rfl (fun K hK => ?_)
            go_simp
            (with_reducible refine (HMO.out _).mono ?_); rintro e w4 ⟨rfl, hg4⟩; have hSm := joinB hSn hg4.below; clear hSn hg4; have hSn := hSm; clear hSm
            refine hK.out _ _ ?_ (fun hHeld => ?_)
            · exact hSn
            clear hK K
            try simp only [Act.put, List.setIfInBounds_toArray, List.set_cons_zero, List.set_cons_succ]
            refine tkW 32 (some 102) (v := ?_) rfl ?_ ?_
            rotate_left
            · intro u hSu; have hSa := blkCell (blkOld HCB.out hSu); have hSb := blkCell (blkOld HOB.out hSu); clear hSu; go_simp; (try with_reducible rfl)
            try simp only [Act.put, List.setIfInBounds_toArray, List.set_cons_zero, List.set_cons_succ]
            refine tkW 33 (some 103) (v := ?_) rfl ?_ ?_
            rotate_left
            · intro u hSu; have hSa := blkCell (blkOld HCB.out hSu); have hSb := blkCell (blkOld HOB.out hSu); clear hSu; go_simp; (try with_reducible rfl)
            try simp only [Act.put, List.setIfInBounds_toArray, List.set_cons_zero, List.set_cons_succ]
            refine tkW 34 (some 104) (v := ?_) rfl ?_ ?_
            rotate_left
            · intro u hSu; have hSa := blkCell (blkOld HCB.out hSu); have hSb := blkCell (blkOld HOB.out hSu); clear hSu; go_simp; (try with_reducible rfl)
            try simp only [Act.put, List.setIfInBounds_toArray, List.set_cons_zero, List.set_cons_succ]
            refine wpAnyH_done (by kernel_rfl) ?_ _
            clear hHeld
            go_wp2_with fail
            go_meet
            case rel => exact ⟨false, rfl, (fun h => by cases h), (fun _ => HF.out), hSn⟩
          · have HF := Lib.hid (show ¬ P from fun h => ho (HUP2.out h))
            rw [decide_eq_false ho] at HMO
            clear HUP2 HUQ2
            generalize Sp.rightV ⟨ak, an, sa⟩ = g at HP HRI
            have hSn : Below W1.heap.size W1 W1.drew := (Below.refl _ W1).drew
            refine wp_region_held_drew (S := (fun u => Below W1.heap.size W1 u)) (by kernel_rfl) ?_ (fun hHeld => ?_)
            · exact hSn
            generalize W1.drew = w9 at hSn ⊢
            refine tkW 0 (some 70) (v := ?_) rfl ?_ ?_
            rotate_left
            · intro u hSu; have hSa := blkCell (blkOld HCB.out hSu); have hSb := blkCell (blkOld HOB.out hSu); clear hSu; go_simp; (try with_reducible rfl)
            try simp only [Act.put, List.setIfInBounds_toArray, List.set_cons_zero, List.set_cons_succ]
            refine tkV 1 (some 71) (v := .agg #[.int .i64 ak, .int .i64 an, .string sa]) rfl (yieldsIf_load_mid (by rfl) 36 (.tmp 70) rfl go 0 (by rfl) [.int .i64 ak, .int .i64 an, .string sa] _ (fun u hu j v hj => by rw [blkCell (blkOld HOB.out hu)]; rcases j with _ | _ | _ | _ | j <;> simp at hj ⊢ <;> exact hj) Try.underlying36 (by kernel_rfl) (by kernel_rfl)) ?_
            try simp only [Act.put, List.setIfInBounds_toArray, List.set_cons_zero, List.set_cons_succ]
            refine rdH 2 (some 72) rfl (fun K hK => ?_)
            go_simp
            (with_reducible refine (HRI.out _).mono ?_); rintro e w2 ⟨q, rfl, hq, hb2⟩; obtain rfl := q_true hq HP.out; clear hq; have hSm := joinB hSn hb2; clear hSn hb2; have hSn := hSm; clear hSm
            refine hK.out _ _ ?_ (fun hHeld => ?_)
            · exact hSn
            clear hK K
            try simp only [Act.put, List.setIfInBounds_toArray, List.set_cons_zero, List.set_cons_succ]
            refine tkW 3 (some 73) (v := ?_) rfl ?_ ?_
            rotate_left
            · intro u hSu; have hSa := blkCell (blkOld HCB.out hSu); have hSb := blkCell (blkOld HOB.out hSu); clear hSu; go_simp; (try with_reducible rfl)
            try simp only [Act.put, List.setIfInBounds_toArray, List.set_cons_zero, List.set_cons_succ]
            refine tkW 4 (some 74) (v := ?_) rfl ?_ ?_
            rotate_left
            · intro u hSu; have hSa := blkCell (blkOld HCB.out hSu); have hSb := blkCell (blkOld HOB.out hSu); clear hSu; go_simp; (try with_reducible rfl)
            try simp only [Act.put, List.setIfInBounds_toArray, List.set_cons_zero, List.set_cons_succ]
            refine tkW 5 (some 75) (v := ?_) rfl ?_ ?_
            rotate_left
            · intro u hSu; have hSa := blkCell (blkOld HCB.out hSu); have hSb := blkCell (blkOld HOB.out hSu); clear hSu; go_simp; (try with_reducible rfl)
            try simp only [Act.put, List.setIfInBounds_toArray, List.set_cons_zero, List.set_cons_succ]
            refine tkV 6 (some 76) (v := .agg #[.int .i64 ak, .int .i64 an, .string sa]) rfl (yieldsIf_load_mid (by rfl) 36 (.tmp 75) rfl go 0 (by rfl) [.int .i64 ak, .int .i64 an, .string sa] _ (fun u hu j v hj => by rw [blkCell (blkOld HOB.out hu)]; rcases j with _ | _ | _ | _ | j <;> simp at hj ⊢ <;> exact hj) Try.underlying36 (by kernel_rfl) (by kernel_rfl)) ?_
            try simp only [Act.put, List.setIfInBounds_toArray, List.set_cons_zero, List.set_cons_succ]
            refine rdH 7 (some 77) rfl (fun K hK => ?_)
            go_simp
            (with_reducible refine (HNU.out _).mono ?_); rintro e w3 ⟨rfl, hg3⟩; have hSm := joinB hSn hg3.below; clear hSn hg3; have hSn := hSm; clear hSm
            refine hK.out _ _ ?_ (fun hHeld => ?_)
            · exact hSn
            clear hK K
            try simp only [Act.put, List.setIfInBounds_toArray, List.set_cons_zero, List.set_cons_succ]
            refine tkW 8 (some 78) (v := ?_) rfl ?_ ?_
            rotate_left
            · intro u hSu; have hSa := blkCell (blkOld HCB.out hSu); have hSb := blkCell (blkOld HOB.out hSu); clear hSu; go_simp; (try with_reducible rfl)
            try simp only [Act.put, List.setIfInBounds_toArray, List.set_cons_zero, List.set_cons_succ]
            refine tkW 9 (some 79) (v := ?_) rfl ?_ ?_
            rotate_left
            · intro u hSu; have hSa := blkCell (blkOld HCB.out hSu); have hSb := blkCell (blkOld HOB.out hSu); clear hSu; go_simp; (try with_reducible rfl)
            try simp only [Act.put, List.setIfInBounds_toArray, List.set_cons_zero, List.set_cons_succ]
            refine tkW 10 (some 80) (v := ?_) rfl ?_ ?_
            rotate_left
            · intro u hSu; have hSa := blkCell (blkOld HCB.out hSu); have hSb := blkCell (blkOld HOB.out hSu); clear hSu; go_simp; (try with_reducible rfl)
            try simp only [Act.put, List.setIfInBounds_toArray, List.set_cons_zero, List.set_cons_succ]
            refine tkW 11 (some 81) (v := ?_) rfl ?_ ?_
            rotate_left
            · intro u hSu; have hSa := blkCell (blkOld HCB.out hSu); have hSb := blkCell (blkOld HOB.out hSu); clear hSu; go_simp; (try with_reducible rfl)
            try simp only [Act.put, List.setIfInBounds_toArray, List.set_cons_zero, List.set_cons_succ]
            refine tkW 12 (some 82) (v := ?_) rfl ?_ ?_
            rotate_left
            · intro u hSu; have hSa := blkCell (blkOld HCB.out hSu); have hSb := blkCell (blkOld HOB.out hSu); clear hSu; go_simp; (try with_reducible rfl)
            try simp only [Act.put, List.setIfInBounds_toArray, List.set_cons_zero, List.set_cons_succ]
            refine tkW 13 (some 83) (v := ?_) rfl ?_ ?_
            rotate_left
            · intro u hSu; have hSa := blkCell (blkOld HCB.out hSu); have hSb := blkCell (blkOld HOB.out hSu); clear hSu; go_simp; (try with_reducible rfl)
            try simp only [Act.put, List.setIfInBounds_toArray, List.set_cons_zero, List.set_cons_succ]
            refine tkW 14 (some 84) (v := ?_) rfl ?_ ?_
            rotate_left
            · intro u hSu; have hSa := blkCell (blkOld HCB.out hSu); have hSb := blkCell (blkOld HOB.out hSu); clear hSu; go_simp; (try with_reducible rfl)
            try simp only [Act.put, List.setIfInBounds_toArray, List.set_cons_zero, List.set_cons_succ]
            refine tkW 15 (some 85) (v := ?_) rfl ?_ ?_
            rotate_left
            · intro u hSu; have hSa := blkCell (blkOld HCB.out hSu); have hSb := blkCell (blkOld HOB.out hSu); clear hSu; go_simp; (try with_reducible rfl)
            try simp only [Act.put, List.setIfInBounds_toArray, List.set_cons_zero, List.set_cons_succ]
            refine tkW 16 (some 86) (v := ?_) rfl ?_ ?_
            rotate_left
            · intro u hSu; have hSa := blkCell (blkOld HCB.out hSu); have hSb := blkCell (blkOld HOB.out hSu); clear hSu; go_simp; (try with_reducible rfl)
            try simp only [Act.put, List.setIfInBounds_toArray, List.set_cons_zero, List.set_cons_succ]
            refine tkW 17 (some 87) (v := ?_) rfl ?_ ?_
            rotate_left
            · intro u hSu; have hSa := blkCell (blkOld HCB.out hSu); have hSb := blkCell (blkOld HOB.out hSu); clear hSu; go_simp; (try with_reducible rfl)
            try simp only [Act.put, List.setIfInBounds_toArray, List.set_cons_zero, List.set_cons_succ]
            refine tkW 18 (some 88) (v := ?_) rfl ?_ ?_
            rotate_left
            · intro u hSu; have hSa := blkCell (blkOld HCB.out hSu); have hSb := blkCell (blkOld HOB.out hSu); clear hSu; go_simp; (try with_reducible rfl)
            try simp only [Act.put, List.setIfInBounds_toArray, List.set_cons_zero, List.set_cons_succ]
            refine tkW 19 (some 89) (v := ?_) rfl ?_ ?_
            rotate_left
            · intro u hSu; have hSa := blkCell (blkOld HCB.out hSu); have hSb := blkCell (blkOld HOB.out hSu); clear hSu; go_simp; (try with_reducible rfl)
            try simp only [Act.put, List.setIfInBounds_toArray, List.set_cons_zero, List.set_cons_succ]
            refine tkW 20 (some 90) (v := ?_) rfl ?_ ?_
            rotate_left
            · intro u hSu; have hSa := blkCell (blkOld HCB.out hSu); have hSb := blkCell (blkOld HOB.out hSu); clear hSu; go_simp; (try with_reducible rfl)
            try simp only [Act.put, List.setIfInBounds_toArray, List.set_cons_zero, List.set_cons_succ]
            refine tkW 21 (some 91) (v := ?_) rfl ?_ ?_
            rotate_left
            · intro u hSu; have hSa := blkCell (blkOld HCB.out hSu); have hSb := blkCell (blkOld HOB.out hSu); clear hSu; go_simp; (try with_reducible rfl)
            try simp only [Act.put, List.setIfInBounds_toArray, List.set_cons_zero, List.set_cons_succ]
            refine tkW 22 (some 92) (v := ?_) rfl ?_ ?_
            rotate_left
            · intro u hSu; have hSa := blkCell (blkOld HCB.out hSu); have hSb := blkCell (blkOld HOB.out hSu); clear hSu; go_simp; (try with_reducible rfl)
            try simp only [Act.put, List.setIfInBounds_toArray, List.set_cons_zero, List.set_cons_succ]
            refine tkW 23 (some 93) (v := ?_) rfl ?_ ?_
            rotate_left
            · intro u hSu; have hSa := blkCell (blkOld HCB.out hSu); have hSb := blkCell (blkOld HOB.out hSu); clear hSu; go_simp; (try with_reducible rfl)
            try simp only [Act.put, List.setIfInBounds_toArray, List.set_cons_zero, List.set_cons_succ]
            refine tkW 24 (some 94) (v := ?_) rfl ?_ ?_
            rotate_left
            · intro u hSu; have hSa := blkCell (blkOld HCB.out hSu); have hSb := blkCell (blkOld HOB.out hSu); clear hSu; go_simp; (try with_reducible rfl)
            try simp only [Act.put, List.setIfInBounds_toArray, List.set_cons_zero, List.set_cons_succ]
            refine tkW 25 (some 95) (v := ?_) rfl ?_ ?_
            rotate_left
            · intro u hSu; have hSa := blkCell (blkOld HCB.out hSu); have hSb := blkCell (blkOld HOB.out hSu); clear hSu; go_simp; (try with_reducible rfl)
            try simp only [Act.put, List.setIfInBounds_toArray, List.set_cons_zero, List.set_cons_succ]
            refine tkW 26 (some 96) (v := ?_) rfl ?_ ?_
            rotate_left
            · intro u hSu; have hSa := blkCell (blkOld HCB.out hSu); have hSb := blkCell (blkOld HOB.out hSu); clear hSu; go_simp; (try with_reducible rfl)
            try simp only [Act.put, List.setIfInBounds_toArray, List.set_cons_zero, List.set_cons_succ]
            refine tkW 27 (some 97) (v := ?_) rfl ?_ ?_
            rotate_left
            · intro u hSu; have hSa := blkCell (blkOld HCB.out hSu); have hSb := blkCell (blkOld HOB.out hSu); clear hSu; go_simp; (try with_reducible rfl)
            try simp only [Act.put, List.setIfInBounds_toArray, List.set_cons_zero, List.set_cons_succ]
            refine tkW 28 (some 98) (v := ?_) rfl ?_ ?_
            rotate_left
            · intro u hSu; have hSa := blkCell (blkOld HCB.out hSu); have hSb := blkCell (blkOld HOB.out hSu); clear hSu; go_simp; (try with_reducible rfl)
            try simp only [Act.put, List.setIfInBounds_toArray, List.set_cons_zero, List.set_cons_succ]
            refine tkV 29 (some 99) (v := .agg #[.int .i64 bk, .int .i64 bn, .string sb, .int .i64 bc]) rfl (yieldsIf_load_mid (by rfl) 48 (.tmp 98) rfl b (off + m * 4) (by rfl) [.int .i64 bk, .int .i64 bn, .string sb, .int .i64 bc] _ HYR2.out Try.underlying48 (by kernel_rfl) (by kernel_rfl)) ?_
            try simp only [Act.put, List.setIfInBounds_toArray, List.set_cons_zero, List.set_cons_succ]
            refine tkV 30 (some 100) (v := .agg #[.int .i64 ak, .int .i64 an, .string sa, .int .i64 ac]) rfl (yieldsIf_load_mid (by rfl) 48 (.tmp 7) rfl go 0 (by rfl) #[.int .i64 ak, .int .i64 an, .string sa, .int .i64 ac].toList _ (fun u hu => (by intro j v hj; rw [Nat.zero_add, blkCell (blkOld HOB.out hu)]; simpa using hj)) Try.underlying48 (by kernel_rfl) (by kernel_rfl)) ?_
            try simp only [Act.put, List.setIfInBounds_toArray, List.set_cons_zero, List.set_cons_succ]
            refine rdH 31 (some 101) rfl (fun K hK => ?_)
            go_simp
            (with_reducible refine (HMO.out _).mono ?_); rintro e w4 ⟨rfl, hg4⟩; have hSm := joinB hSn hg4.below; clear hSn hg4; have hSn := hSm; clear hSm
            refine hK.out _ _ ?_ (fun hHeld => ?_)
            · exact hSn
            clear hK K
            try simp only [Act.put, List.setIfInBounds_toArray, List.set_cons_zero, List.set_cons_succ]
            refine tkW 32 (some 102) (v := ?_) rfl ?_ ?_
            rotate_left
            · intro u hSu; have hSa := blkCell (blkOld HCB.out hSu); have hSb := blkCell (blkOld HOB.out hSu); clear hSu; go_simp; (try with_reducible rfl)
            try simp only [Act.put, List.setIfInBounds_toArray, List.set_cons_zero, List.set_cons_succ]
            refine tkW 33 (some 103) (v := ?_) rfl ?_ ?_
            rotate_left
            · intro u hSu; have hSa := blkCell (blkOld HCB.out hSu); have hSb := blkCell (blkOld HOB.out hSu); clear hSu; go_simp; (try with_reducible rfl)
            try simp only [Act.put, List.setIfInBounds_toArray, List.set_cons_zero, List.set_cons_succ]
            refine tkW 34 (some 104) (v := ?_) rfl ?_ ?_
            rotate_left
            · intro u hSu; have hSa := blkCell (blkOld HCB.out hSu); have hSb := blkCell (blkOld HOB.out hSu); clear hSu; go_simp; (try with_reducible rfl)
            try simp only [Act.put, List.setIfInBounds_toArray, List.set_cons_zero, List.set_cons_succ]
            refine wpAnyH_done (by kernel_rfl) ?_ _
            clear hHeld
            go_wp2_with fail
            go_meet
            case rel => exact ⟨true, rfl, (fun _ => HF.out), (fun h => by cases h), hSn⟩
      case rest =>
        obtain ⟨t, rfl, ht1, ht2, hbc⟩ := hcut
        obtain ⟨w5, rfl⟩ : ∃ wm : World, wm = wc := ⟨_, rfl⟩
        have HB5 := Lib.hid (joinB HBW.out hbc)
        have HCB5 := Lib.hid (blkOld HCB.out hbc)
        have HOB5 := Lib.hid (blkOld HOB.out hbc)
        have HZ5 := Lib.hid (HX.out.step (joinB HBW.out hbc))
        clear hbc HCB HOB HRI HNU HKI HA1 HA2 HA3 HA4
        cases t with
        | true =>
          have HF := Lib.hid (HN.out (ht1 rfl) _ HZ5.out.below)
          clear ht1 ht2 HDEF HA5 HMK HST HKJ HA
          go_wp2_with fail
          exact HF.out _ (by simp)
        | false =>
          obtain ⟨hg, h2, h3, hup⟩ := ht2 rfl
          have HMK2 := Lib.hid (HMK.out hg h2 (by omega) hup)
          clear ht1 ht2 hg hup HMK
          have hc5 := blkCell HOB5.out
          have hst := HST.out
          have hwL : IntKind.i64.wrap (rows - nu - (di - (cs.length : Int)) - S - ac) = rows - nu - (di - (cs.length : Int)) - Sp.sumO (cs.take (k + 1)) := by
            rw [hst, show rows - nu - (di - (cs.length : Int)) - (S + ac) = rows - nu - (di - (cs.length : Int)) - S - ac by omega]
            exact IntWalk.i64_in _ (by omega)
          have hb1 : 0 ≤ Sp.sumO (cs.take (k + 1)) := by rw [hst]; omega
          have hb2 : Sp.sumO (cs.take (k + 1)) ≤ rows - nu - (di - (cs.length : Int)) := by rw [hst]; omega
          clear hst HST
          obtain ⟨S2, hS2⟩ : ∃ S2, S2 = Sp.sumO (cs.take (k + 1)) := ⟨_, rfl⟩
          rw [← hS2] at hwL hb1 hb2
          have HS2 := Lib.hid hS2
          clear hS2
          obtain ⟨w4, rfl⟩ : ∃ wm : World, wm = wr := ⟨_, rfl⟩
          go_wp2_with fail
          clear hc5 hwL
          go_loopw [8] (fun i wq => ∃ j : Nat, j ≤ k ∧ i = .int .i64 j ∧ (∀ i (hi : i < j) (hik : i < cs.length), cs[i].v ≠ ⟨ak, an, sa⟩) ∧ Below w5.heap.size w5 wq) (fun i _ => k - (intOf i).toNat)
          case atStart => exact ⟨0, Nat.zero_le _, rfl, fun _ h => absurd h (by omega), Below.refl _ _⟩
          case round =>
            obtain ⟨j, hj, rfl, hun, hbq⟩ := hrel
            have HU := Lib.hid hun
            have HBQ := Lib.hid hbq
            clear hun hbq
            have hj0 : (0 : Int) ≤ (j : Int) := by omega
            have hwj : IntKind.i64.wrap ((j : Int) + 1) = (j : Int) + 1 := IntWalk.i64_in _ (by omega)
            by_cases hjk : j < k
            · have hjc : j < cs.length := by omega
              have hji : (j : Int) < (k : Int) := by omega
              have HZR := Lib.hid (fun u (hu : Below wr.heap.size wr u) => HKJ.out j hjc u (joinB (joinB HB5.out HBQ.out) hu))
              have HUN := Lib.hid (show cs[j].v ≠ ⟨ak, an, sa⟩ → ∀ i (hi : i < j + 1) (hik : i < cs.length), cs[i].v ≠ ⟨ak, an, sa⟩ from fun h i hi hik => by
                rcases Nat.lt_or_eq_of_le (Nat.le_of_lt_succ hi) with h5 | h5
                · exact HU.out i h5 hik
                · subst h5; exact h)
              have HEQ := Lib.hid (show cs[j].v = ⟨ak, an, sa⟩ → ¬ P from fun h hP => HA5.out hP j hjk h)
              have HO := Lib.hid (fun W => rorder_any cs[j].v ⟨ak, an, sa⟩ (HBC.out _ (List.getElem_mem hjc)).s HVB.out.s W)
              have HOZ := Lib.hid (@Sp.ordV_zero cs[j].v ⟨ak, an, sa⟩)
              generalize Sp.ordV cs[j].v ⟨ak, an, sa⟩ = o at HO HOZ
              generalize cs[j] = z at HZR HUN HEQ HO HOZ
              obtain ⟨⟨bk, bn, sb⟩, bc⟩ := z
              simp only at HUN HEQ HO HOZ
              dsimp only [valA] at HO
              have HZC := Lib.hid (show ∀ u, Below wr.heap.size wr u → u.rangeAt b (off + j * 4) [.int .i64 bk, .int .i64 bn, .string sb] from fun u hu i v hv => HZR.out u hu i v (by rcases i with _ | _ | _ | i <;> simp [oftC] at hv ⊢ <;> exact hv))
              have HCB6 := Lib.hid (blkOld HCB5.out HBQ.out)
              have HOB6 := Lib.hid (blkOld HOB5.out HBQ.out)
              have hjl : (j : Int) < (cs.length : Int) := by omega
              clear HZR HU
              go_upto_region 14 with fail
              have hSn : Below wr.heap.size wr wr.drew := (Below.refl _ wr).drew
              refine wp_region_held_drew (S := (fun u => Below wr.heap.size wr u)) (by kernel_rfl) ?_ (fun hHeld => ?_)
              · exact hSn
              generalize wr.drew = w9 at hSn ⊢
              refine tkW 0 (some 114) (v := ?_) rfl ?_ ?_
              rotate_left
              · intro u hSu; have hSa := blkCell (blkOld HCB6.out hSu); clear hSu; go_simp; (try with_reducible rfl)
              try simp only [Act.put, List.setIfInBounds_toArray, List.set_cons_zero, List.set_cons_succ]
              refine tkW 1 (some 115) (v := ?_) rfl ?_ ?_
              rotate_left
              · intro u hSu; have hSa := blkCell (blkOld HCB6.out hSu); clear hSu; go_simp; (try with_reducible rfl)
              try simp only [Act.put, List.setIfInBounds_toArray, List.set_cons_zero, List.set_cons_succ]
              refine tkW 2 (some 116) (v := ?_) rfl ?_ ?_
              rotate_left
              · intro u hSu; have hSa := blkCell (blkOld HCB6.out hSu); clear hSu; go_simp; (try with_reducible rfl)
              try simp only [Act.put, List.setIfInBounds_toArray, List.set_cons_zero, List.set_cons_succ]
              refine tkW 3 (some 117) (v := ?_) rfl ?_ ?_
              rotate_left
              · intro u hSu; have hSa := blkCell (blkOld HCB6.out hSu); clear hSu; go_simp; (try with_reducible rfl)
              try simp only [Act.put, List.setIfInBounds_toArray, List.set_cons_zero, List.set_cons_succ]
              refine tkW 4 (some 118) (v := ?_) rfl ?_ ?_
              rotate_left
              · intro u hSu; have hSa := blkCell (blkOld HCB6.out hSu); clear hSu; go_simp; (try with_reducible rfl)
              try simp only [Act.put, List.setIfInBounds_toArray, List.set_cons_zero, List.set_cons_succ]
              refine tkV 5 (some 119) (v := .agg #[.int .i64 bk, .int .i64 bn, .string sb]) rfl (yieldsIf_load_mid (by rfl) 36 (.tmp 118) rfl b (off + j * 4) (by rfl) [.int .i64 bk, .int .i64 bn, .string sb] _ HZC.out Try.underlying36 (by kernel_rfl) (by kernel_rfl)) ?_
              try simp only [Act.put, List.setIfInBounds_toArray, List.set_cons_zero, List.set_cons_succ]
              refine tkW 6 (some 120) (v := ?_) rfl ?_ ?_
              rotate_left
              · intro u hSu; have hSa := blkCell (blkOld HCB6.out hSu); clear hSu; go_simp; (try with_reducible rfl)
              try simp only [Act.put, List.setIfInBounds_toArray, List.set_cons_zero, List.set_cons_succ]
              refine tkV 7 (some 121) (v := .agg #[.int .i64 ak, .int .i64 an, .string sa]) rfl (yieldsIf_load_mid (by rfl) 36 (.tmp 120) rfl go 0 (by rfl) [.int .i64 ak, .int .i64 an, .string sa] _ (fun u hu j v hj => by rw [blkCell (blkOld HOB6.out hu)]; rcases j with _ | _ | _ | _ | j <;> simp at hj ⊢ <;> exact hj) Try.underlying36 (by kernel_rfl) (by kernel_rfl)) ?_
              try simp only [Act.put, List.setIfInBounds_toArray, List.set_cons_zero, List.set_cons_succ]
              refine rdH 8 (some 122) rfl (fun K hK => ?_)
              go_simp
              (with_reducible refine (HO.out _).mono ?_); rintro e w7 ⟨rfl, hg7⟩; have hSm := joinB hSn hg7.below; clear hSn hg7; have hSn := hSm; clear hSm
              refine hK.out _ _ ?_ (fun hHeld => ?_)
              · exact hSn
              clear hK K
              try simp only [Act.put, List.setIfInBounds_toArray, List.set_cons_zero, List.set_cons_succ]
              refine tkW 9 (some 123) (v := ?_) rfl ?_ ?_
              rotate_left
              · intro u hSu; have hSa := blkCell (blkOld HCB6.out hSu); clear hSu; go_simp; (try with_reducible rfl)
              try simp only [Act.put, List.setIfInBounds_toArray, List.set_cons_zero, List.set_cons_succ]
              refine wpAnyH_done (by kernel_rfl) ?_ _
              clear hHeld HZC HCB6 HOB6 HO
              by_cases ho : o = 0
              · have HF := Lib.hid (HN.out (HEQ.out (HOZ.out.1 ho)))
                subst ho
                clear HA HMK2 HDEF HUN HOZ HEQ
                go_wp2_with fail
                exact HF.out _ (HZ5.out.step (joinB HBQ.out hSn)).below _ (by simp)
              · have HUN2 := Lib.hid (HUN.out (fun h => ho (HOZ.out.2 h)))
                have ho2 : (o == 0) = false := by simpa using ho
                clear HUN HOZ HEQ ho
                go_wp2_with fail
                go_roundw
                case rel => exact ⟨j + 1, by omega, by go_num, HUN2.out, joinB HBQ.out hSn⟩
                case measure => simp [intOf]; omega
            · obtain rfl : j = k := by omega
              have HAT2 := Lib.hid (HMK2.out (fun i hi => HU.out i hi (by omega)))
              have HALL := Lib.hid (show ∀ i (hi : i < cs.length), i < j + 1 → Sp.ComAt ⟨nu, di, es, cs⟩ (rows - nu) i hi from fun i hi hij => by
                rcases Nat.lt_or_eq_of_le (Nat.le_of_lt_succ hij) with h5 | h5
                · exact HA.out i hi h5
                · subst h5; exact HAT2.out)
              clear HMK2 HDEF HA HU HKJ HA5
              go_wp2_with fail
              go_roundw
              case rel => exact ⟨j + 1, by omega, by go_num, by rw [HS2.out], by rw [← HS2.out]; exact hb1, by rw [← HS2.out]; exact hb2, HALL.out, HZ5.out.step HBQ.out⟩
              case measure => simp [intOf]; omega
    · obtain rfl : k = cs.length := by omega
      have hs2 : Sp.sumO cs ≤ rows - nu - (di - (cs.length : Int)) := by have := HSD.out; rw [List.take_length] at this; omega
      have HEQ := Lib.hid (show P ↔ (di = 0 → es.length = 0) ∧ (di ≠ 0 → es.length = 8 ∧ (∀ i (hi : i < es.length), Sp.goodV es[i]) ∧ UpL es) from ⟨fun h => (HDEF.out.1 h).2.2, fun h => HDEF.out.2 ⟨⟨by omega, by omega, by omega, by omega⟩, ⟨by omega, by omega, fun i hi => HA.out i hi hi, by omega⟩, h⟩⟩)
      clear HDEF HA HSD hs0 hs1 HR HBC
      by_cases hd : di = 0
      · have hd1 : (di == 0) = true := by simpa using hd
        by_cases he : es.length = 0
        · have HF := Lib.hid (HY.out (HEQ.out.2 ⟨fun _ => he, fun h => absurd hd h⟩) _ HX.out.below)
          have HEL := Lib.hid he
          clear HEQ HY HN hd he
          go_wp2_with fail
          exact HF.out _ (by have := HEL.out; simp [*])
        · have HF := Lib.hid (HN.out (fun h => he ((HEQ.out.1 h).1 hd)) _ HX.out.below)
          have HEL := Lib.hid he
          clear HEQ HY HN hd he
          go_wp2_with fail
          exact HF.out _ (by have := HEL.out; simp [*])
      · have hd1 : (di == 0) = false := by simpa using hd
        have HEQ2 := Lib.hid (show P ↔ es.length = 8 ∧ (∀ i (hi : i < es.length), Sp.goodV es[i]) ∧ UpL es from ⟨fun h => (HEQ.out.1 h).2 hd, fun h => HEQ.out.2 ⟨fun h2 => absurd h2 hd, fun _ => h⟩⟩)
        clear HEQ hd
        obtain ⟨w4, rfl⟩ : ∃ wm : World, wm = wr := ⟨_, rfl⟩
        go_wp2_with fail
        clear hcb
        go_loopw [9] (fun i wr => ∃ k : Nat, k ≤ es.length ∧ i = .int .i64 k ∧ (∀ j (hj : j < es.length), j < k → Sp.goodV es[j]) ∧ (∀ j (hj : j + 1 < es.length), j + 1 < k → Sp.ordV (es[j]'(by omega)) es[j + 1] ≤ 0) ∧ BxL w.heap.size w [(#[.int .i64 nu, .int .i64 di, .slice E es.length ec, .slice C cs.length cc], 39)] wr) (fun i _ => es.length - (intOf i).toNat)
        case atStart => exact ⟨0, Nat.zero_le _, rfl, fun _ _ h => absurd h (by omega), fun _ _ h => absurd h (by omega), HX.out⟩
        case round =>
          clear HX
          obtain ⟨k, hk, rfl, hgd, hup, hbx⟩ := hrel
          have HG := Lib.hid hgd
          have HU := Lib.hid hup
          have HX := Lib.hid hbx
          clear hgd hup hbx
          have hcb := blkCell HX.out.get0
          by_cases hlt : k < es.length
          · obtain ⟨b, off, rfl, hca, hbl, hcell⟩ := read_at valC_len (HE.out.below HX.out.below) hlt
            have hRL := HE.out.below HX.out.below
            have hkm : k - 1 < es.length := by omega
            have HVB := Lib.hid (HBE.out es[k] (List.getElem_mem hlt))
            have HVM := Lib.hid (HBE.out es[k - 1] (List.getElem_mem hkm))
            have HRI := Lib.hid (fun W => rright_any es[k] HVB.out.s W)
            have HNU := Lib.hid (fun W => rnull_any es[k] HVB.out.s W)
            have HKI := Lib.hid (@Sp.known_iff es[k])
            have HA1 := Lib.hid (show P → Sp.goodV es[k] from fun h => (HEQ2.out.1 h).2.1 k hlt)
            have HA2 := Lib.hid (show P → ∀ h : 0 < k, Sp.ordV (es[k - 1]'hkm) es[k] ≤ 0 from fun h h0 => by
              have h1 := (HEQ2.out.1 h).2.2 (k - 1) (by omega)
              have e : k - 1 + 1 = k := by omega
              simp only [e] at h1
              exact h1)
            have HMK := Lib.hid (show Sp.goodV es[k] → (∀ h : 0 < k, Sp.ordV (es[k - 1]'hkm) es[k] ≤ 0) → (∀ j (hj : j < es.length), j < k + 1 → Sp.goodV es[j]) ∧ (∀ j (hj : j + 1 < es.length), j + 1 < k + 1 → Sp.ordV (es[j]'(by omega)) es[j + 1] ≤ 0) from fun a c => ⟨fun j hj hjk => by
              rcases Nat.lt_or_eq_of_le (Nat.le_of_lt_succ hjk) with h5 | h5
              · exact HG.out j hj h5
              · subst h5; exact a, fun j hj hjk => by
              rcases Nat.lt_or_eq_of_le (Nat.le_of_lt_succ hjk) with h5 | h5
              · exact HU.out j hj h5
              · subst h5; have := c (by omega); simpa using this⟩)
            have HKJ := Lib.hid (show ∀ j (h : j < es.length), ∀ u, Below wr.heap.size wr u → u.rangeAt b (off + j * 3) (valC es[j]) from fun j h => by
              obtain ⟨b', off', e', _, hbl', hcell'⟩ := read_at valC_len hRL h
              injection e' with e'
              injection e' with e1 e2
              subst e1 e2
              exact fun u hu i v hi => by rw [hu.cell (p := ⟨b, off + j * 3 + i, none⟩) hbl']; exact hcell' i v hi)
            have HYK := Lib.hid (HKJ.out k hlt)
            have HYR := Lib.hid (HKJ.out (k - 1) hkm)
            have HMO := Lib.hid (fun W => rorder_any es[k - 1] es[k] HVM.out.s HVB.out.s W)
            obtain ⟨o, ho⟩ : ∃ o, o = Sp.ordV es[k - 1] es[k] := ⟨_, rfl⟩
            rw [← ho] at HMO HA2 HMK
            clear ho hRL HKJ HVB HVM
            obtain ⟨y, hy⟩ : ∃ y, y = es[k - 1] := ⟨_, rfl⟩
            rw [← hy] at HYR HMO
            clear hy
            obtain ⟨x, hx⟩ : ∃ x, x = es[k] := ⟨_, rfl⟩
            rw [← hx] at hcell HRI HNU HKI HA1 HMK HMO HYK
            clear hx hcell
            obtain ⟨ak, an, sa⟩ := x
            obtain ⟨bk, bn, sb⟩ := y
            dsimp only [valA] at HRI HNU HMO
            have HYA := Lib.hid (show ∀ u, Below wr.heap.size wr u → u.rangeAt b (off + k * 3) [.int .i64 ak, .int .i64 an, .string sa] from HYK.out)
            have HYB := Lib.hid (show ∀ u, Below wr.heap.size wr u → u.rangeAt b (off + (k - 1) * 3) [.int .i64 bk, .int .i64 bn, .string sb] from HYR.out)
            clear HYK HYR
            have HCB := Lib.hid HX.out.get0
            have hk0 : (0 : Int) ≤ (k : Int) := by omega
            have hki : (k : Int) < (es.length : Int) := by omega
            have hwk : IntKind.i64.wrap ((k : Int) + 1) = (k : Int) + 1 := IntWalk.i64_in _ (by omega)
            go_upto_region 21 with fail
            clear hcb
            go_cut [171] (fun q wc => ∃ t : Bool, q = .bool t ∧ (t = true → ¬ P) ∧ (t = false → Sp.goodV ⟨ak, an, sa⟩ ∧ (∀ h : 0 < k, o ≤ 0)) ∧ Below wr.heap.size wr wc)
            case first =>
              clear HY HN HEQ2 HMK HG HU HBE HE
              by_cases hg : Sp.rightV ⟨ak, an, sa⟩
              rotate_left
              · have HP := Lib.hid hg
                have HF := Lib.hid (show ¬ P from fun h => hg (HA1.out h).1)
                clear hg HA1 HA2
                generalize Sp.rightV ⟨ak, an, sa⟩ = g at HP HRI
                have hSn : Below wr.heap.size wr wr.drew := (Below.refl _ wr).drew
                refine wp_region_held_drew (S := (fun u => Below wr.heap.size wr u)) (by kernel_rfl) ?_ (fun hHeld => ?_)
                · exact hSn
                generalize wr.drew = w9 at hSn ⊢
                refine tkW 0 (some 138) (v := ?_) rfl ?_ ?_
                rotate_left
                · intro u hSu; have hSa := blkCell (blkOld HCB.out hSu); clear hSu; go_simp; (try with_reducible rfl)
                try simp only [Act.put, List.setIfInBounds_toArray, List.set_cons_zero, List.set_cons_succ]
                refine tkW 1 (some 139) (v := ?_) rfl ?_ ?_
                rotate_left
                · intro u hSu; have hSa := blkCell (blkOld HCB.out hSu); clear hSu; go_simp; (try with_reducible rfl)
                try simp only [Act.put, List.setIfInBounds_toArray, List.set_cons_zero, List.set_cons_succ]
                refine tkW 2 (some 140) (v := ?_) rfl ?_ ?_
                rotate_left
                · intro u hSu; have hSa := blkCell (blkOld HCB.out hSu); clear hSu; go_simp; (try with_reducible rfl)
                try simp only [Act.put, List.setIfInBounds_toArray, List.set_cons_zero, List.set_cons_succ]
                refine tkW 3 (some 141) (v := ?_) rfl ?_ ?_
                rotate_left
                · intro u hSu; have hSa := blkCell (blkOld HCB.out hSu); clear hSu; go_simp; (try with_reducible rfl)
                try simp only [Act.put, List.setIfInBounds_toArray, List.set_cons_zero, List.set_cons_succ]
                refine tkV 4 (some 142) (v := .agg #[.int .i64 ak, .int .i64 an, .string sa]) rfl (yieldsIf_load_mid (by rfl) 36 (.tmp 141) rfl b (off + k * 3) (by rfl) [.int .i64 ak, .int .i64 an, .string sa] _ HYA.out Try.underlying36 (by kernel_rfl) (by kernel_rfl)) ?_
                try simp only [Act.put, List.setIfInBounds_toArray, List.set_cons_zero, List.set_cons_succ]
                refine rdH 5 (some 143) rfl (fun K hK => ?_)
                go_simp
                (with_reducible refine (HRI.out _).mono ?_); rintro e w2 ⟨q, rfl, hq, hb2⟩; obtain rfl := q_false hq HP.out; clear hq; have hSm := joinB hSn hb2; clear hSn hb2; have hSn := hSm; clear hSm
                refine hK.out _ _ ?_ (fun hHeld => ?_)
                · exact hSn
                clear hK K
                try simp only [Act.put, List.setIfInBounds_toArray, List.set_cons_zero, List.set_cons_succ]
                refine tkW 6 (some 144) (v := ?_) rfl ?_ ?_
                rotate_left
                · intro u hSu; have hSa := blkCell (blkOld HCB.out hSu); clear hSu; go_simp; (try with_reducible rfl)
                try simp only [Act.put, List.setIfInBounds_toArray, List.set_cons_zero, List.set_cons_succ]
                refine tkW 7 (some 145) (v := ?_) rfl ?_ ?_
                rotate_left
                · intro u hSu; have hSa := blkCell (blkOld HCB.out hSu); clear hSu; go_simp; (try with_reducible rfl)
                try simp only [Act.put, List.setIfInBounds_toArray, List.set_cons_zero, List.set_cons_succ]
                refine tkO 8 (some 146) rfl ?_
                try simp only [Act.put, List.setIfInBounds_toArray, List.set_cons_zero, List.set_cons_succ]
                refine tkO 9 (some 147) rfl ?_
                try simp only [Act.put, List.setIfInBounds_toArray, List.set_cons_zero, List.set_cons_succ]
                refine tkO 10 (some 148) rfl ?_
                try simp only [Act.put, List.setIfInBounds_toArray, List.set_cons_zero, List.set_cons_succ]
                refine tkO 11 (some 149) rfl ?_
                try simp only [Act.put, List.setIfInBounds_toArray, List.set_cons_zero, List.set_cons_succ]
                refine tkO 12 (some 150) rfl ?_
                try simp only [Act.put, List.setIfInBounds_toArray, List.set_cons_zero, List.set_cons_succ]
                refine tkO 13 (some 151) rfl ?_
                try simp only [Act.put, List.setIfInBounds_toArray, List.set_cons_zero, List.set_cons_succ]
                refine tkW 14 (some 152) (v := ?_) rfl ?_ ?_
                rotate_left
                · intro u hSu; have hSa := blkCell (blkOld HCB.out hSu); clear hSu; go_simp; (try with_reducible rfl)
                try simp only [Act.put, List.setIfInBounds_toArray, List.set_cons_zero, List.set_cons_succ]
                refine tkW 15 (some 153) (v := ?_) rfl ?_ ?_
                rotate_left
                · intro u hSu; have hSa := blkCell (blkOld HCB.out hSu); clear hSu; go_simp; (try with_reducible rfl)
                try simp only [Act.put, List.setIfInBounds_toArray, List.set_cons_zero, List.set_cons_succ]
                refine tkO 16 (some 154) rfl ?_
                try simp only [Act.put, List.setIfInBounds_toArray, List.set_cons_zero, List.set_cons_succ]
                refine tkO 17 (some 155) rfl ?_
                try simp only [Act.put, List.setIfInBounds_toArray, List.set_cons_zero, List.set_cons_succ]
                refine tkO 18 (some 156) rfl ?_
                try simp only [Act.put, List.setIfInBounds_toArray, List.set_cons_zero, List.set_cons_succ]
                refine tkO 19 (some 157) rfl ?_
                try simp only [Act.put, List.setIfInBounds_toArray, List.set_cons_zero, List.set_cons_succ]
                refine tkO 20 (some 158) rfl ?_
                try simp only [Act.put, List.setIfInBounds_toArray, List.set_cons_zero, List.set_cons_succ]
                refine tkO 21 (some 159) rfl ?_
                try simp only [Act.put, List.setIfInBounds_toArray, List.set_cons_zero, List.set_cons_succ]
                refine tkO 22 (some 160) rfl ?_
                try simp only [Act.put, List.setIfInBounds_toArray, List.set_cons_zero, List.set_cons_succ]
                refine tkO 23 (some 161) rfl ?_
                try simp only [Act.put, List.setIfInBounds_toArray, List.set_cons_zero, List.set_cons_succ]
                refine tkO 24 (some 162) rfl ?_
                try simp only [Act.put, List.setIfInBounds_toArray, List.set_cons_zero, List.set_cons_succ]
                refine tkO 25 (some 163) rfl ?_
                try simp only [Act.put, List.setIfInBounds_toArray, List.set_cons_zero, List.set_cons_succ]
                refine tkO 26 (some 164) rfl ?_
                try simp only [Act.put, List.setIfInBounds_toArray, List.set_cons_zero, List.set_cons_succ]
                refine tkO 27 (some 165) rfl ?_
                try simp only [Act.put, List.setIfInBounds_toArray, List.set_cons_zero, List.set_cons_succ]
                refine tkO 28 (some 166) rfl ?_
                try simp only [Act.put, List.setIfInBounds_toArray, List.set_cons_zero, List.set_cons_succ]
                refine tkO 29 (some 167) rfl ?_
                try simp only [Act.put, List.setIfInBounds_toArray, List.set_cons_zero, List.set_cons_succ]
                refine tkO 30 (some 168) rfl ?_
                try simp only [Act.put, List.setIfInBounds_toArray, List.set_cons_zero, List.set_cons_succ]
                refine tkO 31 (some 169) rfl ?_
                try simp only [Act.put, List.setIfInBounds_toArray, List.set_cons_zero, List.set_cons_succ]
                refine tkO 32 (some 170) rfl ?_
                try simp only [Act.put, List.setIfInBounds_toArray, List.set_cons_zero, List.set_cons_succ]
                refine tkW 33 (some 171) (v := ?_) rfl ?_ ?_
                rotate_left
                · intro u hSu; have hSa := blkCell (blkOld HCB.out hSu); clear hSu; go_simp; (try with_reducible rfl)
                try simp only [Act.put, List.setIfInBounds_toArray, List.set_cons_zero, List.set_cons_succ]
                refine wpAnyH_done (by kernel_rfl) ?_ _
                clear hHeld
                go_wp2_with fail
                go_meet
                case rel => exact ⟨true, rfl, (fun _ => HF.out), (fun h => by cases h), hSn⟩
              have HP := Lib.hid hg
              cases hkn : Sp.known ⟨ak, an, sa⟩ with
              | false =>
                rw [hkn] at HNU
                have HF := Lib.hid (show ¬ P from fun h => by have h1 := HKI.out.2 (HA1.out h).2; rw [hkn] at h1; cases h1)
                clear hg HA1 HA2 hkn
                generalize Sp.rightV ⟨ak, an, sa⟩ = g at HP HRI
                have hSn : Below wr.heap.size wr wr.drew := (Below.refl _ wr).drew
                refine wp_region_held_drew (S := (fun u => Below wr.heap.size wr u)) (by kernel_rfl) ?_ (fun hHeld => ?_)
                · exact hSn
                generalize wr.drew = w9 at hSn ⊢
                refine tkW 0 (some 138) (v := ?_) rfl ?_ ?_
                rotate_left
                · intro u hSu; have hSa := blkCell (blkOld HCB.out hSu); clear hSu; go_simp; (try with_reducible rfl)
                try simp only [Act.put, List.setIfInBounds_toArray, List.set_cons_zero, List.set_cons_succ]
                refine tkW 1 (some 139) (v := ?_) rfl ?_ ?_
                rotate_left
                · intro u hSu; have hSa := blkCell (blkOld HCB.out hSu); clear hSu; go_simp; (try with_reducible rfl)
                try simp only [Act.put, List.setIfInBounds_toArray, List.set_cons_zero, List.set_cons_succ]
                refine tkW 2 (some 140) (v := ?_) rfl ?_ ?_
                rotate_left
                · intro u hSu; have hSa := blkCell (blkOld HCB.out hSu); clear hSu; go_simp; (try with_reducible rfl)
                try simp only [Act.put, List.setIfInBounds_toArray, List.set_cons_zero, List.set_cons_succ]
                refine tkW 3 (some 141) (v := ?_) rfl ?_ ?_
                rotate_left
                · intro u hSu; have hSa := blkCell (blkOld HCB.out hSu); clear hSu; go_simp; (try with_reducible rfl)
                try simp only [Act.put, List.setIfInBounds_toArray, List.set_cons_zero, List.set_cons_succ]
                refine tkV 4 (some 142) (v := .agg #[.int .i64 ak, .int .i64 an, .string sa]) rfl (yieldsIf_load_mid (by rfl) 36 (.tmp 141) rfl b (off + k * 3) (by rfl) [.int .i64 ak, .int .i64 an, .string sa] _ HYA.out Try.underlying36 (by kernel_rfl) (by kernel_rfl)) ?_
                try simp only [Act.put, List.setIfInBounds_toArray, List.set_cons_zero, List.set_cons_succ]
                refine rdH 5 (some 143) rfl (fun K hK => ?_)
                go_simp
                (with_reducible refine (HRI.out _).mono ?_); rintro e w2 ⟨q, rfl, hq, hb2⟩; obtain rfl := q_true hq HP.out; clear hq; have hSm := joinB hSn hb2; clear hSn hb2; have hSn := hSm; clear hSm
                refine hK.out _ _ ?_ (fun hHeld => ?_)
                · exact hSn
                clear hK K
                try simp only [Act.put, List.setIfInBounds_toArray, List.set_cons_zero, List.set_cons_succ]
                refine tkW 6 (some 144) (v := ?_) rfl ?_ ?_
                rotate_left
                · intro u hSu; have hSa := blkCell (blkOld HCB.out hSu); clear hSu; go_simp; (try with_reducible rfl)
                try simp only [Act.put, List.setIfInBounds_toArray, List.set_cons_zero, List.set_cons_succ]
                refine tkW 7 (some 145) (v := ?_) rfl ?_ ?_
                rotate_left
                · intro u hSu; have hSa := blkCell (blkOld HCB.out hSu); clear hSu; go_simp; (try with_reducible rfl)
                try simp only [Act.put, List.setIfInBounds_toArray, List.set_cons_zero, List.set_cons_succ]
                refine tkW 8 (some 146) (v := ?_) rfl ?_ ?_
                rotate_left
                · intro u hSu; have hSa := blkCell (blkOld HCB.out hSu); clear hSu; go_simp; (try with_reducible rfl)
                try simp only [Act.put, List.setIfInBounds_toArray, List.set_cons_zero, List.set_cons_succ]
                refine tkW 9 (some 147) (v := ?_) rfl ?_ ?_
                rotate_left
                · intro u hSu; have hSa := blkCell (blkOld HCB.out hSu); clear hSu; go_simp; (try with_reducible rfl)
                try simp only [Act.put, List.setIfInBounds_toArray, List.set_cons_zero, List.set_cons_succ]
                refine tkW 10 (some 148) (v := ?_) rfl ?_ ?_
                rotate_left
                · intro u hSu; have hSa := blkCell (blkOld HCB.out hSu); clear hSu; go_simp; (try with_reducible rfl)
                try simp only [Act.put, List.setIfInBounds_toArray, List.set_cons_zero, List.set_cons_succ]
                refine tkW 11 (some 149) (v := ?_) rfl ?_ ?_
                rotate_left
                · intro u hSu; have hSa := blkCell (blkOld HCB.out hSu); clear hSu; go_simp; (try with_reducible rfl)
                try simp only [Act.put, List.setIfInBounds_toArray, List.set_cons_zero, List.set_cons_succ]
                refine tkV 12 (some 150) (v := .agg #[.int .i64 ak, .int .i64 an, .string sa]) rfl (yieldsIf_load_mid (by rfl) 36 (.tmp 149) rfl b (off + k * 3) (by rfl) [.int .i64 ak, .int .i64 an, .string sa] _ HYA.out Try.underlying36 (by kernel_rfl) (by kernel_rfl)) ?_
                try simp only [Act.put, List.setIfInBounds_toArray, List.set_cons_zero, List.set_cons_succ]
                refine rdH 13 (some 151) rfl (fun K hK => ?_)
                go_simp
                (with_reducible refine (HNU.out _).mono ?_); rintro e w3 ⟨rfl, hg3⟩; have hSm := joinB hSn hg3.below; clear hSn hg3; have hSn := hSm; clear hSm
                refine hK.out _ _ ?_ (fun hHeld => ?_)
                · exact hSn
                clear hK K
                try simp only [Act.put, List.setIfInBounds_toArray, List.set_cons_zero, List.set_cons_succ]
                refine tkW 14 (some 152) (v := ?_) rfl ?_ ?_
                rotate_left
                · intro u hSu; have hSa := blkCell (blkOld HCB.out hSu); clear hSu; go_simp; (try with_reducible rfl)
                try simp only [Act.put, List.setIfInBounds_toArray, List.set_cons_zero, List.set_cons_succ]
                refine tkW 15 (some 153) (v := ?_) rfl ?_ ?_
                rotate_left
                · intro u hSu; have hSa := blkCell (blkOld HCB.out hSu); clear hSu; go_simp; (try with_reducible rfl)
                try simp only [Act.put, List.setIfInBounds_toArray, List.set_cons_zero, List.set_cons_succ]
                refine tkO 16 (some 154) rfl ?_
                try simp only [Act.put, List.setIfInBounds_toArray, List.set_cons_zero, List.set_cons_succ]
                refine tkO 17 (some 155) rfl ?_
                try simp only [Act.put, List.setIfInBounds_toArray, List.set_cons_zero, List.set_cons_succ]
                refine tkO 18 (some 156) rfl ?_
                try simp only [Act.put, List.setIfInBounds_toArray, List.set_cons_zero, List.set_cons_succ]
                refine tkO 19 (some 157) rfl ?_
                try simp only [Act.put, List.setIfInBounds_toArray, List.set_cons_zero, List.set_cons_succ]
                refine tkO 20 (some 158) rfl ?_
                try simp only [Act.put, List.setIfInBounds_toArray, List.set_cons_zero, List.set_cons_succ]
                refine tkO 21 (some 159) rfl ?_
                try simp only [Act.put, List.setIfInBounds_toArray, List.set_cons_zero, List.set_cons_succ]
                refine tkO 22 (some 160) rfl ?_
                try simp only [Act.put, List.setIfInBounds_toArray, List.set_cons_zero, List.set_cons_succ]
                refine tkO 23 (some 161) rfl ?_
                try simp only [Act.put, List.setIfInBounds_toArray, List.set_cons_zero, List.set_cons_succ]
                refine tkO 24 (some 162) rfl ?_
                try simp only [Act.put, List.setIfInBounds_toArray, List.set_cons_zero, List.set_cons_succ]
                refine tkO 25 (some 163) rfl ?_
                try simp only [Act.put, List.setIfInBounds_toArray, List.set_cons_zero, List.set_cons_succ]
                refine tkO 26 (some 164) rfl ?_
                try simp only [Act.put, List.setIfInBounds_toArray, List.set_cons_zero, List.set_cons_succ]
                refine tkO 27 (some 165) rfl ?_
                try simp only [Act.put, List.setIfInBounds_toArray, List.set_cons_zero, List.set_cons_succ]
                refine tkO 28 (some 166) rfl ?_
                try simp only [Act.put, List.setIfInBounds_toArray, List.set_cons_zero, List.set_cons_succ]
                refine tkO 29 (some 167) rfl ?_
                try simp only [Act.put, List.setIfInBounds_toArray, List.set_cons_zero, List.set_cons_succ]
                refine tkO 30 (some 168) rfl ?_
                try simp only [Act.put, List.setIfInBounds_toArray, List.set_cons_zero, List.set_cons_succ]
                refine tkO 31 (some 169) rfl ?_
                try simp only [Act.put, List.setIfInBounds_toArray, List.set_cons_zero, List.set_cons_succ]
                refine tkO 32 (some 170) rfl ?_
                try simp only [Act.put, List.setIfInBounds_toArray, List.set_cons_zero, List.set_cons_succ]
                refine tkW 33 (some 171) (v := ?_) rfl ?_ ?_
                rotate_left
                · intro u hSu; have hSa := blkCell (blkOld HCB.out hSu); clear hSu; go_simp; (try with_reducible rfl)
                try simp only [Act.put, List.setIfInBounds_toArray, List.set_cons_zero, List.set_cons_succ]
                refine wpAnyH_done (by kernel_rfl) ?_ _
                clear hHeld
                go_wp2_with fail
                go_meet
                case rel => exact ⟨true, rfl, (fun _ => HF.out), (fun h => by cases h), hSn⟩
              | true =>
                rw [hkn] at HNU
                have hgd : Sp.goodV ⟨ak, an, sa⟩ := ⟨hg, HKI.out.1 hkn⟩
                by_cases h0 : k = 0
                · have HF := Lib.hid (show Sp.goodV ⟨ak, an, sa⟩ ∧ (∀ h : 0 < k, o ≤ 0) from ⟨hgd, fun h => absurd h (by omega)⟩)
                  have h0i : ¬ (0 : Int) < (k : Int) := by omega
                  have h0d : decide (0 < k) = false := decide_eq_false (by omega)
                  clear hg HA1 HA2 hkn hgd h0
                  generalize Sp.rightV ⟨ak, an, sa⟩ = g at HP HRI
                  have hSn : Below wr.heap.size wr wr.drew := (Below.refl _ wr).drew
                  refine wp_region_held_drew (S := (fun u => Below wr.heap.size wr u)) (by kernel_rfl) ?_ (fun hHeld => ?_)
                  · exact hSn
                  generalize wr.drew = w9 at hSn ⊢
                  refine tkW 0 (some 138) (v := ?_) rfl ?_ ?_
                  rotate_left
                  · intro u hSu; have hSa := blkCell (blkOld HCB.out hSu); clear hSu; go_simp; (try with_reducible rfl)
                  try simp only [Act.put, List.setIfInBounds_toArray, List.set_cons_zero, List.set_cons_succ]
                  refine tkW 1 (some 139) (v := ?_) rfl ?_ ?_
                  rotate_left
                  · intro u hSu; have hSa := blkCell (blkOld HCB.out hSu); clear hSu; go_simp; (try with_reducible rfl)
                  try simp only [Act.put, List.setIfInBounds_toArray, List.set_cons_zero, List.set_cons_succ]
                  refine tkW 2 (some 140) (v := ?_) rfl ?_ ?_
                  rotate_left
                  · intro u hSu; have hSa := blkCell (blkOld HCB.out hSu); clear hSu; go_simp; (try with_reducible rfl)
                  try simp only [Act.put, List.setIfInBounds_toArray, List.set_cons_zero, List.set_cons_succ]
                  refine tkW 3 (some 141) (v := ?_) rfl ?_ ?_
                  rotate_left
                  · intro u hSu; have hSa := blkCell (blkOld HCB.out hSu); clear hSu; go_simp; (try with_reducible rfl)
                  try simp only [Act.put, List.setIfInBounds_toArray, List.set_cons_zero, List.set_cons_succ]
                  refine tkV 4 (some 142) (v := .agg #[.int .i64 ak, .int .i64 an, .string sa]) rfl (yieldsIf_load_mid (by rfl) 36 (.tmp 141) rfl b (off + k * 3) (by rfl) [.int .i64 ak, .int .i64 an, .string sa] _ HYA.out Try.underlying36 (by kernel_rfl) (by kernel_rfl)) ?_
                  try simp only [Act.put, List.setIfInBounds_toArray, List.set_cons_zero, List.set_cons_succ]
                  refine rdH 5 (some 143) rfl (fun K hK => ?_)
                  go_simp
                  (with_reducible refine (HRI.out _).mono ?_); rintro e w2 ⟨q, rfl, hq, hb2⟩; obtain rfl := q_true hq HP.out; clear hq; have hSm := joinB hSn hb2; clear hSn hb2; have hSn := hSm; clear hSm
                  refine hK.out _ _ ?_ (fun hHeld => ?_)
                  · exact hSn
                  clear hK K
                  try simp only [Act.put, List.setIfInBounds_toArray, List.set_cons_zero, List.set_cons_succ]
                  refine tkW 6 (some 144) (v := ?_) rfl ?_ ?_
                  rotate_left
                  · intro u hSu; have hSa := blkCell (blkOld HCB.out hSu); clear hSu; go_simp; (try with_reducible rfl)
                  try simp only [Act.put, List.setIfInBounds_toArray, List.set_cons_zero, List.set_cons_succ]
                  refine tkW 7 (some 145) (v := ?_) rfl ?_ ?_
                  rotate_left
                  · intro u hSu; have hSa := blkCell (blkOld HCB.out hSu); clear hSu; go_simp; (try with_reducible rfl)
                  try simp only [Act.put, List.setIfInBounds_toArray, List.set_cons_zero, List.set_cons_succ]
                  refine tkW 8 (some 146) (v := ?_) rfl ?_ ?_
                  rotate_left
                  · intro u hSu; have hSa := blkCell (blkOld HCB.out hSu); clear hSu; go_simp; (try with_reducible rfl)
                  try simp only [Act.put, List.setIfInBounds_toArray, List.set_cons_zero, List.set_cons_succ]
                  refine tkW 9 (some 147) (v := ?_) rfl ?_ ?_
                  rotate_left
                  · intro u hSu; have hSa := blkCell (blkOld HCB.out hSu); clear hSu; go_simp; (try with_reducible rfl)
                  try simp only [Act.put, List.setIfInBounds_toArray, List.set_cons_zero, List.set_cons_succ]
                  refine tkW 10 (some 148) (v := ?_) rfl ?_ ?_
                  rotate_left
                  · intro u hSu; have hSa := blkCell (blkOld HCB.out hSu); clear hSu; go_simp; (try with_reducible rfl)
                  try simp only [Act.put, List.setIfInBounds_toArray, List.set_cons_zero, List.set_cons_succ]
                  refine tkW 11 (some 149) (v := ?_) rfl ?_ ?_
                  rotate_left
                  · intro u hSu; have hSa := blkCell (blkOld HCB.out hSu); clear hSu; go_simp; (try with_reducible rfl)
                  try simp only [Act.put, List.setIfInBounds_toArray, List.set_cons_zero, List.set_cons_succ]
                  refine tkV 12 (some 150) (v := .agg #[.int .i64 ak, .int .i64 an, .string sa]) rfl (yieldsIf_load_mid (by rfl) 36 (.tmp 149) rfl b (off + k * 3) (by rfl) [.int .i64 ak, .int .i64 an, .string sa] _ HYA.out Try.underlying36 (by kernel_rfl) (by kernel_rfl)) ?_
                  try simp only [Act.put, List.setIfInBounds_toArray, List.set_cons_zero, List.set_cons_succ]
                  refine rdH 13 (some 151) rfl (fun K hK => ?_)
                  go_simp
                  (with_reducible refine (HNU.out _).mono ?_); rintro e w3 ⟨rfl, hg3⟩; have hSm := joinB hSn hg3.below; clear hSn hg3; have hSn := hSm; clear hSm
                  refine hK.out _ _ ?_ (fun hHeld => ?_)
                  · exact hSn
                  clear hK K
                  try simp only [Act.put, List.setIfInBounds_toArray, List.set_cons_zero, List.set_cons_succ]
                  refine tkW 14 (some 152) (v := ?_) rfl ?_ ?_
                  rotate_left
                  · intro u hSu; have hSa := blkCell (blkOld HCB.out hSu); clear hSu; go_simp; (try with_reducible rfl)
                  try simp only [Act.put, List.setIfInBounds_toArray, List.set_cons_zero, List.set_cons_succ]
                  refine tkW 15 (some 153) (v := ?_) rfl ?_ ?_
                  rotate_left
                  · intro u hSu; have hSa := blkCell (blkOld HCB.out hSu); clear hSu; go_simp; (try with_reducible rfl)
                  try simp only [Act.put, List.setIfInBounds_toArray, List.set_cons_zero, List.set_cons_succ]
                  refine tkW 16 (some 154) (v := ?_) rfl ?_ ?_
                  rotate_left
                  · intro u hSu; have hSa := blkCell (blkOld HCB.out hSu); clear hSu; go_simp; (try with_reducible rfl)
                  try simp only [Act.put, List.setIfInBounds_toArray, List.set_cons_zero, List.set_cons_succ]
                  refine tkW 17 (some 155) (v := ?_) rfl ?_ ?_
                  rotate_left
                  · intro u hSu; have hSa := blkCell (blkOld HCB.out hSu); clear hSu; go_simp; (try with_reducible rfl)
                  try simp only [Act.put, List.setIfInBounds_toArray, List.set_cons_zero, List.set_cons_succ]
                  refine tkW 18 (some 156) (v := ?_) rfl ?_ ?_
                  rotate_left
                  · intro u hSu; have hSa := blkCell (blkOld HCB.out hSu); clear hSu; go_simp; (try with_reducible rfl)
                  try simp only [Act.put, List.setIfInBounds_toArray, List.set_cons_zero, List.set_cons_succ]
                  refine tkO 19 (some 157) rfl ?_
                  try simp only [Act.put, List.setIfInBounds_toArray, List.set_cons_zero, List.set_cons_succ]
                  refine tkO 20 (some 158) rfl ?_
                  try simp only [Act.put, List.setIfInBounds_toArray, List.set_cons_zero, List.set_cons_succ]
                  refine tkO 21 (some 159) rfl ?_
                  try simp only [Act.put, List.setIfInBounds_toArray, List.set_cons_zero, List.set_cons_succ]
                  refine tkO 22 (some 160) rfl ?_
                  try simp only [Act.put, List.setIfInBounds_toArray, List.set_cons_zero, List.set_cons_succ]
                  refine tkO 23 (some 161) rfl ?_
                  try simp only [Act.put, List.setIfInBounds_toArray, List.set_cons_zero, List.set_cons_succ]
                  refine tkO 24 (some 162) rfl ?_
                  try simp only [Act.put, List.setIfInBounds_toArray, List.set_cons_zero, List.set_cons_succ]
                  refine tkO 25 (some 163) rfl ?_
                  try simp only [Act.put, List.setIfInBounds_toArray, List.set_cons_zero, List.set_cons_succ]
                  refine tkO 26 (some 164) rfl ?_
                  try simp only [Act.put, List.setIfInBounds_toArray, List.set_cons_zero, List.set_cons_succ]
                  refine tkO 27 (some 165) rfl ?_
                  try simp only [Act.put, List.setIfInBounds_toArray, List.set_cons_zero, List.set_cons_succ]
                  refine tkO 28 (some 166) rfl ?_
                  try simp only [Act.put, List.setIfInBounds_toArray, List.set_cons_zero, List.set_cons_succ]
                  refine tkO 29 (some 167) rfl ?_
                  try simp only [Act.put, List.setIfInBounds_toArray, List.set_cons_zero, List.set_cons_succ]
                  refine tkO 30 (some 168) rfl ?_
                  try simp only [Act.put, List.setIfInBounds_toArray, List.set_cons_zero, List.set_cons_succ]
                  refine tkO 31 (some 169) rfl ?_
                  try simp only [Act.put, List.setIfInBounds_toArray, List.set_cons_zero, List.set_cons_succ]
                  refine tkW 32 (some 170) (v := ?_) rfl ?_ ?_
                  rotate_left
                  · intro u hSu; have hSa := blkCell (blkOld HCB.out hSu); clear hSu; go_simp; (try with_reducible rfl)
                  try simp only [Act.put, List.setIfInBounds_toArray, List.set_cons_zero, List.set_cons_succ]
                  refine tkW 33 (some 171) (v := ?_) rfl ?_ ?_
                  rotate_left
                  · intro u hSu; have hSa := blkCell (blkOld HCB.out hSu); clear hSu; go_simp; (try with_reducible rfl)
                  try simp only [Act.put, List.setIfInBounds_toArray, List.set_cons_zero, List.set_cons_succ]
                  refine wpAnyH_done (by kernel_rfl) ?_ _
                  clear hHeld
                  go_wp2_with fail
                  go_meet
                  case rel => exact ⟨false, rfl, (fun h => by cases h), (fun _ => HF.out), hSn⟩
                have hkp : 0 < k := by omega
                have h0i : (0 : Int) < (k : Int) := by omega
                have h0d : decide (0 < k) = true := decide_eq_true hkp
                have hw1 : IntKind.i64.wrap ((k : Int) - 1) = ((k - 1 : Nat) : Int) := by rw [show (k : Int) - 1 = ((k - 1 : Nat) : Int) by omega]; exact IntWalk.i64_in _ (by omega)
                have hw2 : (0 : Int) ≤ ((k - 1 : Nat) : Int) := by omega
                have hw3 : ((k - 1 : Nat) : Int) < (es.length : Int) := by omega
                obtain ⟨m, hm⟩ : ∃ m, m = k - 1 := ⟨_, rfl⟩
                rw [← hm] at hw1 hw2 hw3 HYB
                have HUQ := Lib.hid (show o ≤ 0 → Sp.goodV ⟨ak, an, sa⟩ ∧ (∀ h : 0 < k, o ≤ 0) from fun h => ⟨hgd, fun _ => h⟩)
                have HUP := Lib.hid (show P → o ≤ 0 from fun h => HA2.out h hkp)
                clear hm hg HA1 HA2 hkp h0 hkn hgd
                by_cases ho : 0 < o
                · have HF := Lib.hid (show ¬ P from fun h => absurd (HUP.out h) (by omega))
                  clear HUQ HUP
                  generalize Sp.rightV ⟨ak, an, sa⟩ = g at HP HRI
                  have hSn : Below wr.heap.size wr wr.drew := (Below.refl _ wr).drew
                  refine wp_region_held_drew (S := (fun u => Below wr.heap.size wr u)) (by kernel_rfl) ?_ (fun hHeld => ?_)
                  · exact hSn
                  generalize wr.drew = w9 at hSn ⊢
                  refine tkW 0 (some 138) (v := ?_) rfl ?_ ?_
                  rotate_left
                  · intro u hSu; have hSa := blkCell (blkOld HCB.out hSu); clear hSu; go_simp; (try with_reducible rfl)
                  try simp only [Act.put, List.setIfInBounds_toArray, List.set_cons_zero, List.set_cons_succ]
                  refine tkW 1 (some 139) (v := ?_) rfl ?_ ?_
                  rotate_left
                  · intro u hSu; have hSa := blkCell (blkOld HCB.out hSu); clear hSu; go_simp; (try with_reducible rfl)
                  try simp only [Act.put, List.setIfInBounds_toArray, List.set_cons_zero, List.set_cons_succ]
                  refine tkW 2 (some 140) (v := ?_) rfl ?_ ?_
                  rotate_left
                  · intro u hSu; have hSa := blkCell (blkOld HCB.out hSu); clear hSu; go_simp; (try with_reducible rfl)
                  try simp only [Act.put, List.setIfInBounds_toArray, List.set_cons_zero, List.set_cons_succ]
                  refine tkW 3 (some 141) (v := ?_) rfl ?_ ?_
                  rotate_left
                  · intro u hSu; have hSa := blkCell (blkOld HCB.out hSu); clear hSu; go_simp; (try with_reducible rfl)
                  try simp only [Act.put, List.setIfInBounds_toArray, List.set_cons_zero, List.set_cons_succ]
                  refine tkV 4 (some 142) (v := .agg #[.int .i64 ak, .int .i64 an, .string sa]) rfl (yieldsIf_load_mid (by rfl) 36 (.tmp 141) rfl b (off + k * 3) (by rfl) [.int .i64 ak, .int .i64 an, .string sa] _ HYA.out Try.underlying36 (by kernel_rfl) (by kernel_rfl)) ?_
                  try simp only [Act.put, List.setIfInBounds_toArray, List.set_cons_zero, List.set_cons_succ]
                  refine rdH 5 (some 143) rfl (fun K hK => ?_)
                  go_simp
                  (with_reducible refine (HRI.out _).mono ?_); rintro e w2 ⟨q, rfl, hq, hb2⟩; obtain rfl := q_true hq HP.out; clear hq; have hSm := joinB hSn hb2; clear hSn hb2; have hSn := hSm; clear hSm
                  refine hK.out _ _ ?_ (fun hHeld => ?_)
                  · exact hSn
                  clear hK K
                  try simp only [Act.put, List.setIfInBounds_toArray, List.set_cons_zero, List.set_cons_succ]
                  refine tkW 6 (some 144) (v := ?_) rfl ?_ ?_
                  rotate_left
                  · intro u hSu; have hSa := blkCell (blkOld HCB.out hSu); clear hSu; go_simp; (try with_reducible rfl)
                  try simp only [Act.put, List.setIfInBounds_toArray, List.set_cons_zero, List.set_cons_succ]
                  refine tkW 7 (some 145) (v := ?_) rfl ?_ ?_
                  rotate_left
                  · intro u hSu; have hSa := blkCell (blkOld HCB.out hSu); clear hSu; go_simp; (try with_reducible rfl)
                  try simp only [Act.put, List.setIfInBounds_toArray, List.set_cons_zero, List.set_cons_succ]
                  refine tkW 8 (some 146) (v := ?_) rfl ?_ ?_
                  rotate_left
                  · intro u hSu; have hSa := blkCell (blkOld HCB.out hSu); clear hSu; go_simp; (try with_reducible rfl)
                  try simp only [Act.put, List.setIfInBounds_toArray, List.set_cons_zero, List.set_cons_succ]
                  refine tkW 9 (some 147) (v := ?_) rfl ?_ ?_
                  rotate_left
                  · intro u hSu; have hSa := blkCell (blkOld HCB.out hSu); clear hSu; go_simp; (try with_reducible rfl)
                  try simp only [Act.put, List.setIfInBounds_toArray, List.set_cons_zero, List.set_cons_succ]
                  refine tkW 10 (some 148) (v := ?_) rfl ?_ ?_
                  rotate_left
                  · intro u hSu; have hSa := blkCell (blkOld HCB.out hSu); clear hSu; go_simp; (try with_reducible rfl)
                  try simp only [Act.put, List.setIfInBounds_toArray, List.set_cons_zero, List.set_cons_succ]
                  refine tkW 11 (some 149) (v := ?_) rfl ?_ ?_
                  rotate_left
                  · intro u hSu; have hSa := blkCell (blkOld HCB.out hSu); clear hSu; go_simp; (try with_reducible rfl)
                  try simp only [Act.put, List.setIfInBounds_toArray, List.set_cons_zero, List.set_cons_succ]
                  refine tkV 12 (some 150) (v := .agg #[.int .i64 ak, .int .i64 an, .string sa]) rfl (yieldsIf_load_mid (by rfl) 36 (.tmp 149) rfl b (off + k * 3) (by rfl) [.int .i64 ak, .int .i64 an, .string sa] _ HYA.out Try.underlying36 (by kernel_rfl) (by kernel_rfl)) ?_
                  try simp only [Act.put, List.setIfInBounds_toArray, List.set_cons_zero, List.set_cons_succ]
                  refine rdH 13 (some 151) rfl (fun K hK => ?_)
                  go_simp
                  (with_reducible refine (HNU.out _).mono ?_); rintro e w3 ⟨rfl, hg3⟩; have hSm := joinB hSn hg3.below; clear hSn hg3; have hSn := hSm; clear hSm
                  refine hK.out _ _ ?_ (fun hHeld => ?_)
                  · exact hSn
                  clear hK K
                  try simp only [Act.put, List.setIfInBounds_toArray, List.set_cons_zero, List.set_cons_succ]
                  refine tkW 14 (some 152) (v := ?_) rfl ?_ ?_
                  rotate_left
                  · intro u hSu; have hSa := blkCell (blkOld HCB.out hSu); clear hSu; go_simp; (try with_reducible rfl)
                  try simp only [Act.put, List.setIfInBounds_toArray, List.set_cons_zero, List.set_cons_succ]
                  refine tkW 15 (some 153) (v := ?_) rfl ?_ ?_
                  rotate_left
                  · intro u hSu; have hSa := blkCell (blkOld HCB.out hSu); clear hSu; go_simp; (try with_reducible rfl)
                  try simp only [Act.put, List.setIfInBounds_toArray, List.set_cons_zero, List.set_cons_succ]
                  refine tkW 16 (some 154) (v := ?_) rfl ?_ ?_
                  rotate_left
                  · intro u hSu; have hSa := blkCell (blkOld HCB.out hSu); clear hSu; go_simp; (try with_reducible rfl)
                  try simp only [Act.put, List.setIfInBounds_toArray, List.set_cons_zero, List.set_cons_succ]
                  refine tkW 17 (some 155) (v := ?_) rfl ?_ ?_
                  rotate_left
                  · intro u hSu; have hSa := blkCell (blkOld HCB.out hSu); clear hSu; go_simp; (try with_reducible rfl)
                  try simp only [Act.put, List.setIfInBounds_toArray, List.set_cons_zero, List.set_cons_succ]
                  refine tkW 18 (some 156) (v := ?_) rfl ?_ ?_
                  rotate_left
                  · intro u hSu; have hSa := blkCell (blkOld HCB.out hSu); clear hSu; go_simp; (try with_reducible rfl)
                  try simp only [Act.put, List.setIfInBounds_toArray, List.set_cons_zero, List.set_cons_succ]
                  refine tkW 19 (some 157) (v := ?_) rfl ?_ ?_
                  rotate_left
                  · intro u hSu; have hSa := blkCell (blkOld HCB.out hSu); clear hSu; go_simp; (try with_reducible rfl)
                  try simp only [Act.put, List.setIfInBounds_toArray, List.set_cons_zero, List.set_cons_succ]
                  refine tkW 20 (some 158) (v := ?_) rfl ?_ ?_
                  rotate_left
                  · intro u hSu; have hSa := blkCell (blkOld HCB.out hSu); clear hSu; go_simp; (try with_reducible rfl)
                  try simp only [Act.put, List.setIfInBounds_toArray, List.set_cons_zero, List.set_cons_succ]
                  refine tkW 21 (some 159) (v := ?_) rfl ?_ ?_
                  rotate_left
                  · intro u hSu; have hSa := blkCell (blkOld HCB.out hSu); clear hSu; go_simp; (try with_reducible rfl)
                  try simp only [Act.put, List.setIfInBounds_toArray, List.set_cons_zero, List.set_cons_succ]
                  refine tkW 22 (some 160) (v := ?_) rfl ?_ ?_
                  rotate_left
                  · intro u hSu; have hSa := blkCell (blkOld HCB.out hSu); clear hSu; go_simp; (try with_reducible rfl)
                  try simp only [Act.put, List.setIfInBounds_toArray, List.set_cons_zero, List.set_cons_succ]
                  refine tkW 23 (some 161) (v := ?_) rfl ?_ ?_
                  rotate_left
                  · intro u hSu; have hSa := blkCell (blkOld HCB.out hSu); clear hSu; go_simp; (try with_reducible rfl)
                  try simp only [Act.put, List.setIfInBounds_toArray, List.set_cons_zero, List.set_cons_succ]
                  refine tkV 24 (some 162) (v := .agg #[.int .i64 bk, .int .i64 bn, .string sb]) rfl (yieldsIf_load_mid (by rfl) 36 (.tmp 161) rfl b (off + m * 3) (by rfl) [.int .i64 bk, .int .i64 bn, .string sb] _ HYB.out Try.underlying36 (by kernel_rfl) (by kernel_rfl)) ?_
                  try simp only [Act.put, List.setIfInBounds_toArray, List.set_cons_zero, List.set_cons_succ]
                  refine tkW 25 (some 163) (v := ?_) rfl ?_ ?_
                  rotate_left
                  · intro u hSu; have hSa := blkCell (blkOld HCB.out hSu); clear hSu; go_simp; (try with_reducible rfl)
                  try simp only [Act.put, List.setIfInBounds_toArray, List.set_cons_zero, List.set_cons_succ]
                  refine tkW 26 (some 164) (v := ?_) rfl ?_ ?_
                  rotate_left
                  · intro u hSu; have hSa := blkCell (blkOld HCB.out hSu); clear hSu; go_simp; (try with_reducible rfl)
                  try simp only [Act.put, List.setIfInBounds_toArray, List.set_cons_zero, List.set_cons_succ]
                  refine tkW 27 (some 165) (v := ?_) rfl ?_ ?_
                  rotate_left
                  · intro u hSu; have hSa := blkCell (blkOld HCB.out hSu); clear hSu; go_simp; (try with_reducible rfl)
                  try simp only [Act.put, List.setIfInBounds_toArray, List.set_cons_zero, List.set_cons_succ]
                  refine tkW 28 (some 166) (v := ?_) rfl ?_ ?_
                  rotate_left
                  · intro u hSu; have hSa := blkCell (blkOld HCB.out hSu); clear hSu; go_simp; (try with_reducible rfl)
                  try simp only [Act.put, List.setIfInBounds_toArray, List.set_cons_zero, List.set_cons_succ]
                  refine tkV 29 (some 167) (v := .agg #[.int .i64 ak, .int .i64 an, .string sa]) rfl (yieldsIf_load_mid (by rfl) 36 (.tmp 166) rfl b (off + k * 3) (by rfl) [.int .i64 ak, .int .i64 an, .string sa] _ HYA.out Try.underlying36 (by kernel_rfl) (by kernel_rfl)) ?_
                  try simp only [Act.put, List.setIfInBounds_toArray, List.set_cons_zero, List.set_cons_succ]
                  refine rdH 30 (some 168) rfl (fun K hK => ?_)
                  go_simp
                  (with_reducible refine (HMO.out _).mono ?_); rintro e w4 ⟨rfl, hg4⟩; have hSm := joinB hSn hg4.below; clear hSn hg4; have hSn := hSm; clear hSm
                  refine hK.out _ _ ?_ (fun hHeld => ?_)
                  · exact hSn
                  clear hK K
                  try simp only [Act.put, List.setIfInBounds_toArray, List.set_cons_zero, List.set_cons_succ]
                  refine tkW 31 (some 169) (v := ?_) rfl ?_ ?_
                  rotate_left
                  · intro u hSu; have hSa := blkCell (blkOld HCB.out hSu); clear hSu; go_simp; (try with_reducible rfl)
                  try simp only [Act.put, List.setIfInBounds_toArray, List.set_cons_zero, List.set_cons_succ]
                  refine tkW 32 (some 170) (v := ?_) rfl ?_ ?_
                  rotate_left
                  · intro u hSu; have hSa := blkCell (blkOld HCB.out hSu); clear hSu; go_simp; (try with_reducible rfl)
                  try simp only [Act.put, List.setIfInBounds_toArray, List.set_cons_zero, List.set_cons_succ]
                  refine tkW 33 (some 171) (v := ?_) rfl ?_ ?_
                  rotate_left
                  · intro u hSu; have hSa := blkCell (blkOld HCB.out hSu); clear hSu; go_simp; (try with_reducible rfl)
                  try simp only [Act.put, List.setIfInBounds_toArray, List.set_cons_zero, List.set_cons_succ]
                  refine wpAnyH_done (by kernel_rfl) ?_ _
                  clear hHeld
                  go_wp2_with fail
                  go_meet
                  case rel => exact ⟨true, rfl, (fun _ => HF.out), (fun h => by cases h), hSn⟩
                · have HF := Lib.hid (HUQ.out (by omega))
                  clear HUQ HUP
                  generalize Sp.rightV ⟨ak, an, sa⟩ = g at HP HRI
                  have hSn : Below wr.heap.size wr wr.drew := (Below.refl _ wr).drew
                  refine wp_region_held_drew (S := (fun u => Below wr.heap.size wr u)) (by kernel_rfl) ?_ (fun hHeld => ?_)
                  · exact hSn
                  generalize wr.drew = w9 at hSn ⊢
                  refine tkW 0 (some 138) (v := ?_) rfl ?_ ?_
                  rotate_left
                  · intro u hSu; have hSa := blkCell (blkOld HCB.out hSu); clear hSu; go_simp; (try with_reducible rfl)
                  try simp only [Act.put, List.setIfInBounds_toArray, List.set_cons_zero, List.set_cons_succ]
                  refine tkW 1 (some 139) (v := ?_) rfl ?_ ?_
                  rotate_left
                  · intro u hSu; have hSa := blkCell (blkOld HCB.out hSu); clear hSu; go_simp; (try with_reducible rfl)
                  try simp only [Act.put, List.setIfInBounds_toArray, List.set_cons_zero, List.set_cons_succ]
                  refine tkW 2 (some 140) (v := ?_) rfl ?_ ?_
                  rotate_left
                  · intro u hSu; have hSa := blkCell (blkOld HCB.out hSu); clear hSu; go_simp; (try with_reducible rfl)
                  try simp only [Act.put, List.setIfInBounds_toArray, List.set_cons_zero, List.set_cons_succ]
                  refine tkW 3 (some 141) (v := ?_) rfl ?_ ?_
                  rotate_left
                  · intro u hSu; have hSa := blkCell (blkOld HCB.out hSu); clear hSu; go_simp; (try with_reducible rfl)
                  try simp only [Act.put, List.setIfInBounds_toArray, List.set_cons_zero, List.set_cons_succ]
                  refine tkV 4 (some 142) (v := .agg #[.int .i64 ak, .int .i64 an, .string sa]) rfl (yieldsIf_load_mid (by rfl) 36 (.tmp 141) rfl b (off + k * 3) (by rfl) [.int .i64 ak, .int .i64 an, .string sa] _ HYA.out Try.underlying36 (by kernel_rfl) (by kernel_rfl)) ?_
                  try simp only [Act.put, List.setIfInBounds_toArray, List.set_cons_zero, List.set_cons_succ]
                  refine rdH 5 (some 143) rfl (fun K hK => ?_)
                  go_simp
                  (with_reducible refine (HRI.out _).mono ?_); rintro e w2 ⟨q, rfl, hq, hb2⟩; obtain rfl := q_true hq HP.out; clear hq; have hSm := joinB hSn hb2; clear hSn hb2; have hSn := hSm; clear hSm
                  refine hK.out _ _ ?_ (fun hHeld => ?_)
                  · exact hSn
                  clear hK K
                  try simp only [Act.put, List.setIfInBounds_toArray, List.set_cons_zero, List.set_cons_succ]
                  refine tkW 6 (some 144) (v := ?_) rfl ?_ ?_
                  rotate_left
                  · intro u hSu; have hSa := blkCell (blkOld HCB.out hSu); clear hSu; go_simp; (try with_reducible rfl)
                  try simp only [Act.put, List.setIfInBounds_toArray, List.set_cons_zero, List.set_cons_succ]
                  refine tkW 7 (some 145) (v := ?_) rfl ?_ ?_
                  rotate_left
                  · intro u hSu; have hSa := blkCell (blkOld HCB.out hSu); clear hSu; go_simp; (try with_reducible rfl)
                  try simp only [Act.put, List.setIfInBounds_toArray, List.set_cons_zero, List.set_cons_succ]
                  refine tkW 8 (some 146) (v := ?_) rfl ?_ ?_
                  rotate_left
                  · intro u hSu; have hSa := blkCell (blkOld HCB.out hSu); clear hSu; go_simp; (try with_reducible rfl)
                  try simp only [Act.put, List.setIfInBounds_toArray, List.set_cons_zero, List.set_cons_succ]
                  refine tkW 9 (some 147) (v := ?_) rfl ?_ ?_
                  rotate_left
                  · intro u hSu; have hSa := blkCell (blkOld HCB.out hSu); clear hSu; go_simp; (try with_reducible rfl)
                  try simp only [Act.put, List.setIfInBounds_toArray, List.set_cons_zero, List.set_cons_succ]
                  refine tkW 10 (some 148) (v := ?_) rfl ?_ ?_
                  rotate_left
                  · intro u hSu; have hSa := blkCell (blkOld HCB.out hSu); clear hSu; go_simp; (try with_reducible rfl)
                  try simp only [Act.put, List.setIfInBounds_toArray, List.set_cons_zero, List.set_cons_succ]
                  refine tkW 11 (some 149) (v := ?_) rfl ?_ ?_
                  rotate_left
                  · intro u hSu; have hSa := blkCell (blkOld HCB.out hSu); clear hSu; go_simp; (try with_reducible rfl)
                  try simp only [Act.put, List.setIfInBounds_toArray, List.set_cons_zero, List.set_cons_succ]
                  refine tkV 12 (some 150) (v := .agg #[.int .i64 ak, .int .i64 an, .string sa]) rfl (yieldsIf_load_mid (by rfl) 36 (.tmp 149) rfl b (off + k * 3) (by rfl) [.int .i64 ak, .int .i64 an, .string sa] _ HYA.out Try.underlying36 (by kernel_rfl) (by kernel_rfl)) ?_
                  try simp only [Act.put, List.setIfInBounds_toArray, List.set_cons_zero, List.set_cons_succ]
                  refine rdH 13 (some 151) rfl (fun K hK => ?_)
                  go_simp
                  (with_reducible refine (HNU.out _).mono ?_); rintro e w3 ⟨rfl, hg3⟩; have hSm := joinB hSn hg3.below; clear hSn hg3; have hSn := hSm; clear hSm
                  refine hK.out _ _ ?_ (fun hHeld => ?_)
                  · exact hSn
                  clear hK K
                  try simp only [Act.put, List.setIfInBounds_toArray, List.set_cons_zero, List.set_cons_succ]
                  refine tkW 14 (some 152) (v := ?_) rfl ?_ ?_
                  rotate_left
                  · intro u hSu; have hSa := blkCell (blkOld HCB.out hSu); clear hSu; go_simp; (try with_reducible rfl)
                  try simp only [Act.put, List.setIfInBounds_toArray, List.set_cons_zero, List.set_cons_succ]
                  refine tkW 15 (some 153) (v := ?_) rfl ?_ ?_
                  rotate_left
                  · intro u hSu; have hSa := blkCell (blkOld HCB.out hSu); clear hSu; go_simp; (try with_reducible rfl)
                  try simp only [Act.put, List.setIfInBounds_toArray, List.set_cons_zero, List.set_cons_succ]
                  refine tkW 16 (some 154) (v := ?_) rfl ?_ ?_
                  rotate_left
                  · intro u hSu; have hSa := blkCell (blkOld HCB.out hSu); clear hSu; go_simp; (try with_reducible rfl)
                  try simp only [Act.put, List.setIfInBounds_toArray, List.set_cons_zero, List.set_cons_succ]
                  refine tkW 17 (some 155) (v := ?_) rfl ?_ ?_
                  rotate_left
                  · intro u hSu; have hSa := blkCell (blkOld HCB.out hSu); clear hSu; go_simp; (try with_reducible rfl)
                  try simp only [Act.put, List.setIfInBounds_toArray, List.set_cons_zero, List.set_cons_succ]
                  refine tkW 18 (some 156) (v := ?_) rfl ?_ ?_
                  rotate_left
                  · intro u hSu; have hSa := blkCell (blkOld HCB.out hSu); clear hSu; go_simp; (try with_reducible rfl)
                  try simp only [Act.put, List.setIfInBounds_toArray, List.set_cons_zero, List.set_cons_succ]
                  refine tkW 19 (some 157) (v := ?_) rfl ?_ ?_
                  rotate_left
                  · intro u hSu; have hSa := blkCell (blkOld HCB.out hSu); clear hSu; go_simp; (try with_reducible rfl)
                  try simp only [Act.put, List.setIfInBounds_toArray, List.set_cons_zero, List.set_cons_succ]
                  refine tkW 20 (some 158) (v := ?_) rfl ?_ ?_
                  rotate_left
                  · intro u hSu; have hSa := blkCell (blkOld HCB.out hSu); clear hSu; go_simp; (try with_reducible rfl)
                  try simp only [Act.put, List.setIfInBounds_toArray, List.set_cons_zero, List.set_cons_succ]
                  refine tkW 21 (some 159) (v := ?_) rfl ?_ ?_
                  rotate_left
                  · intro u hSu; have hSa := blkCell (blkOld HCB.out hSu); clear hSu; go_simp; (try with_reducible rfl)
                  try simp only [Act.put, List.setIfInBounds_toArray, List.set_cons_zero, List.set_cons_succ]
                  refine tkW 22 (some 160) (v := ?_) rfl ?_ ?_
                  rotate_left
                  · intro u hSu; have hSa := blkCell (blkOld HCB.out hSu); clear hSu; go_simp; (try with_reducible rfl)
                  try simp only [Act.put, List.setIfInBounds_toArray, List.set_cons_zero, List.set_cons_succ]
                  refine tkW 23 (some 161) (v := ?_) rfl ?_ ?_
                  rotate_left
                  · intro u hSu; have hSa := blkCell (blkOld HCB.out hSu); clear hSu; go_simp; (try with_reducible rfl)
                  try simp only [Act.put, List.setIfInBounds_toArray, List.set_cons_zero, List.set_cons_succ]
                  refine tkV 24 (some 162) (v := .agg #[.int .i64 bk, .int .i64 bn, .string sb]) rfl (yieldsIf_load_mid (by rfl) 36 (.tmp 161) rfl b (off + m * 3) (by rfl) [.int .i64 bk, .int .i64 bn, .string sb] _ HYB.out Try.underlying36 (by kernel_rfl) (by kernel_rfl)) ?_
                  try simp only [Act.put, List.setIfInBounds_toArray, List.set_cons_zero, List.set_cons_succ]
                  refine tkW 25 (some 163) (v := ?_) rfl ?_ ?_
                  rotate_left
                  · intro u hSu; have hSa := blkCell (blkOld HCB.out hSu); clear hSu; go_simp; (try with_reducible rfl)
                  try simp only [Act.put, List.setIfInBounds_toArray, List.set_cons_zero, List.set_cons_succ]
                  refine tkW 26 (some 164) (v := ?_) rfl ?_ ?_
                  rotate_left
                  · intro u hSu; have hSa := blkCell (blkOld HCB.out hSu); clear hSu; go_simp; (try with_reducible rfl)
                  try simp only [Act.put, List.setIfInBounds_toArray, List.set_cons_zero, List.set_cons_succ]
                  refine tkW 27 (some 165) (v := ?_) rfl ?_ ?_
                  rotate_left
                  · intro u hSu; have hSa := blkCell (blkOld HCB.out hSu); clear hSu; go_simp; (try with_reducible rfl)
                  try simp only [Act.put, List.setIfInBounds_toArray, List.set_cons_zero, List.set_cons_succ]
                  refine tkW 28 (some 166) (v := ?_) rfl ?_ ?_
                  rotate_left
                  · intro u hSu; have hSa := blkCell (blkOld HCB.out hSu); clear hSu; go_simp; (try with_reducible rfl)
                  try simp only [Act.put, List.setIfInBounds_toArray, List.set_cons_zero, List.set_cons_succ]
                  refine tkV 29 (some 167) (v := .agg #[.int .i64 ak, .int .i64 an, .string sa]) rfl (yieldsIf_load_mid (by rfl) 36 (.tmp 166) rfl b (off + k * 3) (by rfl) [.int .i64 ak, .int .i64 an, .string sa] _ HYA.out Try.underlying36 (by kernel_rfl) (by kernel_rfl)) ?_
                  try simp only [Act.put, List.setIfInBounds_toArray, List.set_cons_zero, List.set_cons_succ]
                  refine rdH 30 (some 168) rfl (fun K hK => ?_)
                  go_simp
                  (with_reducible refine (HMO.out _).mono ?_); rintro e w4 ⟨rfl, hg4⟩; have hSm := joinB hSn hg4.below; clear hSn hg4; have hSn := hSm; clear hSm
                  refine hK.out _ _ ?_ (fun hHeld => ?_)
                  · exact hSn
                  clear hK K
                  try simp only [Act.put, List.setIfInBounds_toArray, List.set_cons_zero, List.set_cons_succ]
                  refine tkW 31 (some 169) (v := ?_) rfl ?_ ?_
                  rotate_left
                  · intro u hSu; have hSa := blkCell (blkOld HCB.out hSu); clear hSu; go_simp; (try with_reducible rfl)
                  try simp only [Act.put, List.setIfInBounds_toArray, List.set_cons_zero, List.set_cons_succ]
                  refine tkW 32 (some 170) (v := ?_) rfl ?_ ?_
                  rotate_left
                  · intro u hSu; have hSa := blkCell (blkOld HCB.out hSu); clear hSu; go_simp; (try with_reducible rfl)
                  try simp only [Act.put, List.setIfInBounds_toArray, List.set_cons_zero, List.set_cons_succ]
                  refine tkW 33 (some 171) (v := ?_) rfl ?_ ?_
                  rotate_left
                  · intro u hSu; have hSa := blkCell (blkOld HCB.out hSu); clear hSu; go_simp; (try with_reducible rfl)
                  try simp only [Act.put, List.setIfInBounds_toArray, List.set_cons_zero, List.set_cons_succ]
                  refine wpAnyH_done (by kernel_rfl) ?_ _
                  clear hHeld
                  go_wp2_with fail
                  go_meet
                  case rel => exact ⟨false, rfl, (fun h => by cases h), (fun _ => HF.out), hSn⟩
            case rest =>
              obtain ⟨t, rfl, ht1, ht2, hbc⟩ := hcut
              have HX5 := Lib.hid (HX.out.step hbc)
              clear hbc HCB HRI HNU HKI HA1 HA2 HMO HYA HYB
              cases t with
              | true =>
                have HF := Lib.hid (HN.out (ht1 rfl) _ HX5.out.below)
                clear ht1 ht2 HEQ2 HMK HG HU
                go_wp2_with fail
                exact HF.out _ (by simp)
              | false =>
                have HM2 := Lib.hid (HMK.out (ht2 rfl).1 (ht2 rfl).2)
                clear ht1 ht2 HMK HEQ2 HG HU
                go_wp2_with fail
                go_roundw
                case rel => exact ⟨k + 1, by omega, by go_num, HM2.out.1, HM2.out.2, HX5.out⟩
                case measure => simp [intOf]; omega
          · obtain rfl : k = es.length := by omega
            by_cases h8 : es.length = 8
            · have HF := Lib.hid (HY.out (HEQ2.out.2 ⟨h8, fun i hi => HG.out i hi hi, fun j hj => HU.out j hj hj⟩) _ HX.out.below)
              have HEL := Lib.hid h8
              clear HEQ2 HG HU HY HN h8
              go_wp2_with fail
              exact HF.out _ (by have := HEL.out; simp [*])
            · have HF := Lib.hid (HN.out (fun h => h8 (HEQ2.out.1 h).1) _ HX.out.below)
              have HEL := Lib.hid (show ((es.length : Int) == 8) = false by simp; omega)
              clear HEQ2 HG HU HY HN h8
              go_wp2_with fail
              exact HF.out _ (by have := HEL.out; simp [*])
end Go.Proofs.Ytmhpbmobfdgkeaa
