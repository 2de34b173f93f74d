/- The walks over the reference of tree pages: Right, Entries, Children, Find. -/
import Derived.Test.YtgbihdlahghonaaGs14
namespace Go.Proofs.Ytgbihdlahghonaa
open Go.RowKit

theorem rnright_any (p : ByteArray) (hm : p.size ≤ 140737488355328) (w : World) :
    Calls Try.prog 58 #[.string p] w fun x w' => x = .returned (.bool (rightP p)) ∧ Below w.heap.size w w' := by
  have HP := Lib.hid (fun W => rpartsN_any p hm W)
  generalize rightP p = ok at HP ⊢
  go_enter Try.func58, Try.ntmps58
  go_wp2_with (go_at_call 95; refine (HP.out _).mono ?_; rintro e w1 ⟨v1, v2, rfl, ho1, ho2, hb1⟩; have HB1 := Lib.hid hb1; clear ho1 ho2 hb1)
  go_ret
  exact ⟨rfl, HB1.out⟩
theorem rnentries_any (p : ByteArray) (hm : p.size ≤ 140737488355328) (w : World) :
    Calls Try.prog 61 #[.string p] w fun x w' => ∃ v, x = .returned v ∧ OwnEs w.heap.size w' v (viewP p).ents ∧ Below w.heap.size w w' := by
  have HP := Lib.hid (fun W => rpartsN_any p hm W)
  go_enter Try.func61, Try.ntmps61
  go_wp2_with (go_at_call 95; refine (HP.out _).mono ?_; rintro e w1 ⟨v1, v2, rfl, ho1, ho2, hb1⟩; have HB1 := Lib.hid hb1; have HO1 := Lib.hid ho1; clear ho1 ho2 hb1)
  go_ret
  exact ⟨_, rfl, HO1.out, HB1.out⟩
theorem rnchildren_any (p : ByteArray) (hm : p.size ≤ 140737488355328) (w : World) :
    Calls Try.prog 64 #[.string p] w fun x w' => ∃ v, x = .returned v ∧ OwnIs w.heap.size w' v (kidsP p) ∧ Below w.heap.size w w' := by
  have HP := Lib.hid (fun W => rpartsN_any p hm W)
  go_enter Try.func64, Try.ntmps64
  go_wp2_with (go_at_call 95; refine (HP.out _).mono ?_; rintro e w1 ⟨v1, v2, rfl, ho1, ho2, hb1⟩; have HB1 := Lib.hid hb1; have HO2 := Lib.hid ho2; clear ho1 ho2 hb1)
  go_ret
  exact ⟨_, rfl, HO2.out, HB1.out⟩
/-- The keys of a page's entries are short. -/
theorem view_keys (p : ByteArray) : ∀ x ∈ (viewP p).ents, x.key.size ≤ 140737488355328 := by
  cases hr : rightP p with
  | false => rw [(view_wrong hr).1]; intro x hx; cases hx
  | true =>
    obtain ⟨l, hd, _, _, hV⟩ := Nd.lookL_cases (right_look hr).1
    intro x hx
    rw [hV] at hx
    obtain ⟨y, hy, rfl⟩ := List.mem_map.1 hx
    exact Nd.decN_key _ _ hd y hy
set_option maxRecDepth 100000 in
set_option maxHeartbeats 8000000 in
theorem rnfind_any (p : ByteArray) (e : Nd.Entry) (hm : p.size ≤ 140737488355328) (he : e.key.size ≤ 140737488355328) (w : World) :
    Calls Try.prog 53 #[.string p, entV e] w fun x w' => x = .returned (.tuple #[.int .i64 (findP p e).1, .bool (findP p e).2]) ∧ Below w.heap.size w w' := by
  have HP := Lib.hid (fun W => rpartsN_any p hm W)
  have HK := Lib.hid (fun W => rkind_any p hm W)
  have HX := Lib.hid (heap_alloc_new w (.cells #[.string e.key, .int .i64 e.page, .int .i64 e.slot] 45))
  have hbd := look_bound p
  have HKY := Lib.hid (view_keys p)
  unfold findP
  cases hok : rightP p with
  | false =>
    rw [hok] at HP
    rw [show Nd.findV false (viewP p).leaf (viewP p).ents e = (0, false) from if_pos rfl]
    generalize (viewP p).ents = l at HP
    clear hok hbd HKY
    obtain ⟨ek, ep, es⟩ := e
    go_enter Try.func53, Try.ntmps53
    go_wp2_with (go_at_call 95; refine (HP.out _).mono ?_; rintro x w1 ⟨v1, v2, rfl, ho1, ho2, hb1⟩; have HB1 := Lib.hid (below_past hb1); clear ho1 ho2 hb1)
    go_ret2
    exact ⟨rfl, HB1.out⟩
  | true =>
    have hkind := view_kind hok
    obtain ⟨hri, hpos⟩ := view_right hok
    rw [hok] at HP
    rw [hkind] at HK
    clear hkind hok
    generalize viewP p = V at HP HK HKY hri hpos hbd ⊢
    obtain ⟨lf, rs, l, is⟩ := V
    simp only at HP HK HKY hri hpos hbd ⊢
    obtain ⟨hb1, hb2, hb3⟩ := hbd
    have hl : l.length ≤ 123 := by omega
    clear hb1 hb2 hb3
    have HLe := Lib.hid (fun k (h : k < l.length) W => rless_any e l[k] he (HKY.out _ (List.getElem_mem h)) W)
    have HLx := Lib.hid (fun k (h : k < l.length) W => rless_any l[k] e (HKY.out _ (List.getElem_mem h)) he W)
    cases lf with
    | false =>
      have hpos := hpos rfl
      rw [if_neg (by simp)] at HK
      rw [show Nd.findV true false l e = (((Nd.nodeAt l e l.length : Nat) : Int), true) from rfl]
      obtain ⟨R, hR⟩ : ∃ R, R = Nd.nodeAt l e l.length := ⟨_, rfl⟩
      rw [← hR]
      have HR := Lib.hid hR
      have HA1 := Lib.hid (Nd.nodeAt_one l e)
      have HAS := Lib.hid (fun k (h1 : 1 ≤ k) (h2 : k < l.length) => Nd.nodeAt_succ (l := l) (e := e) h1 h2)
      clear hri hR HLx
      generalize Nd.nodeAt l e = f at HR HA1 HAS
      obtain ⟨ek, ep, es⟩ := e
      go_enter Try.func53, Try.ntmps53
      go_upto_region 5 with (first
        | (go_at_call 95; refine (HP.out _).mono ?_; rintro x w1 ⟨v1, v2, rfl, ho1, ho2, hb1⟩; have hcc := ownEs_cells ho1; obtain ⟨A1, c1, rfl, hC1⟩ := hcc; have HC1 := Lib.hid hC1; have HX1 := Lib.hid (blk_old HX.out hb1); have HB1 := Lib.hid (below_past hb1); clear ho1 ho2 hb1 hC1)
        | (go_at_call 20; refine (HK.out _).mono ?_; rintro x w4 ⟨rfl, hb4⟩; have HC4 := Lib.hid (HC1.out.below hb4); have HX4 := Lib.hid (blk_old HX1.out hb4); have HB4 := Lib.hid (andThen HB1.out hb4); clear hb4))
      go_wp2_with fail
      go_loopw [9, 10] (fun n i wr => ∃ k : Nat, 1 ≤ k ∧ k ≤ l.length ∧ i = .int .i64 k ∧ n = .int .i64 (f k : Nat) ∧ Below w4.heap.size w4 wr) (fun _ i _ => l.length - (intOf i).toNat)
      case atStart => exact ⟨1, Nat.le_refl _, by omega, rfl, by rw [HA1.out]; rfl, Below.refl _ _⟩
      case round =>
        obtain ⟨k, hk1, hk2, rfl, rfl, hb⟩ := hrel
        by_cases hlt : k < l.length
        · obtain ⟨g, off, rfl, hc, hgl, hE⟩ := (HC4.out.below hb).at_ (by omega)
          have HS0 := heldN_of (b := ⟨ek, ep, es⟩) hE hgl hlt (blk_old HX4.out hb)
          have HSS := Lib.hid (HS0.step (Below.refl _ _).drew)
          have HLk := Lib.hid (HLe.out k hlt)
          have HSk := Lib.hid (HAS.out k hk1 hlt)
          clear hE HS0
          generalize l[k] = x at HSS HLk HSk
          generalize Nd.lessE ⟨ek, ep, es⟩ x = lb at HLk HSk
          obtain ⟨ak, ap, as_⟩ := x
          have hi1 : (0 : Int) ≤ (k : Int) := by omega
          have hi2 : (k : Int) < (l.length : Int) := by omega
          cases lb with
          | true =>
            have HSt := Lib.hid (HSk.out.trans (if_pos rfl))
            clear HSk
            go_upto_region 9 with (fail)
            refine wp_region_held_drew (S := (fun we => HeldN g (off + k * 3) w.heap.size 0 ⟨ak, ap, as_⟩ ⟨ek, ep, es⟩ wr we)) (by kernel_rfl) ?_ (fun hHeld => ?_)
            · first | exact HSS.out | exact hSn
            refine wpAnyH_take (i := 0) (oi := { dst := some 29, op := _, type := _, pos := _, after := _, guard := _ }) (v := ?_) rfl (by kernel_rfl) (by kernel_rfl) (by kernel_rfl) (fun _ _ _ h => h) (Or.inl ⟨by rfl, ?_⟩) (by assumption) ?_
            rotate_left
            · intro w hSw; (try dsimp only at hSw); go_simp; (try with_reducible rfl)
            try simp only [Act.put, List.setIfInBounds_toArray, List.set_cons_zero, List.set_cons_succ]
            refine wpAnyH_take (i := 1) (oi := { dst := some 30, op := _, type := _, pos := _, after := _, guard := _ }) (v := ?_) rfl (by kernel_rfl) (by kernel_rfl) (by kernel_rfl) (fun _ _ _ h => h) (Or.inl ⟨by rfl, ?_⟩) (by assumption) ?_
            rotate_left
            · intro w hSw; (try dsimp only at hSw); go_simp; (try with_reducible rfl)
            try simp only [Act.put, List.setIfInBounds_toArray, List.set_cons_zero, List.set_cons_succ]
            refine wpAnyH_take (i := 2) (oi := { dst := some 31, op := _, type := _, pos := _, after := _, guard := _ }) (v := ?_) rfl (by kernel_rfl) (by kernel_rfl) (by kernel_rfl) (fun _ _ _ h => h) (Or.inl ⟨by rfl, ?_⟩) (by assumption) ?_
            rotate_left
            · intro w hSw; (try dsimp only at hSw); go_simp; (try with_reducible rfl)
            try simp only [Act.put, List.setIfInBounds_toArray, List.set_cons_zero, List.set_cons_succ]
            refine wpAnyH_take (i := 3) (oi := { dst := some 32, op := _, type := _, pos := _, after := _, guard := _ }) (v := ?_) rfl (by kernel_rfl) (by kernel_rfl) (by kernel_rfl) (fun _ _ _ h => h) (Or.inl ⟨by rfl, ?_⟩) (by assumption) ?_
            rotate_left
            · intro w hSw; (try dsimp only at hSw); go_simp; (try with_reducible rfl)
            try simp only [Act.put, List.setIfInBounds_toArray, List.set_cons_zero, List.set_cons_succ]
            refine wpAnyH_take (i := 4) (oi := { dst := some 33, op := _, type := _, pos := _, after := _, guard := _ }) (v := ?_) rfl (by kernel_rfl) (by kernel_rfl) (by kernel_rfl) (fun _ _ _ h => h) (Or.inl ⟨by rfl, ?_⟩) (by assumption) ?_
            rotate_left
            · intro w hSw; (try dsimp only at hSw); go_simp; (try with_reducible rfl)
            try simp only [Act.put, List.setIfInBounds_toArray, List.set_cons_zero, List.set_cons_succ]
            refine wpAnyH_ready (rs := [5]) (by kernel_rfl) (by simp) ?_
            refine AllReadyH.cons (o := { dst := some 34, op := _, type := _, pos := _, after := _, guard := _ }) rfl (fun K hK => ?_) ?_
            rotate_left
            · exact AllReadyH.nil
            go_simp
            refine (HLk.out _).mono ?_; rintro e w7 ⟨rfl, hb7⟩; have hSn := hHeld.step hb7; clear hHeld hb7; try go_simp
            refine hK.out _ _ ?_ (fun hHeld => ?_)
            · first | exact HSS.out | exact hSn
            clear hK K
            try simp only [Act.put, List.setIfInBounds_toArray, List.set_cons_zero, List.set_cons_succ]
            refine wpAnyH_take (i := 6) (oi := { dst := some 35, op := _, type := _, pos := _, after := _, guard := _ }) (v := ?_) rfl (by kernel_rfl) (by kernel_rfl) (by kernel_rfl) (fun _ _ _ h => h) (Or.inl ⟨by rfl, ?_⟩) (by assumption) ?_
            rotate_left
            · intro w hSw; (try dsimp only at hSw); go_simp; (try with_reducible rfl)
            try simp only [Act.put, List.setIfInBounds_toArray, List.set_cons_zero, List.set_cons_succ]
            refine wpAnyH_done (by kernel_rfl) ?_ _
            go_wp2_with fail
            go_roundw
            case rel => exact ⟨k + 1, by omega, by omega, by go_num, by rw [HSt.out], andThen hb hHeld.2.2.2.2.2.2.2.2⟩
            case measure => simp [intOf]; omega
          | false =>
            have HSt := Lib.hid (HSk.out.trans (if_neg (by simp)))
            clear HSk
            go_upto_region 9 with (fail)
            refine wp_region_held_drew (S := (fun we => HeldN g (off + k * 3) w.heap.size 0 ⟨ak, ap, as_⟩ ⟨ek, ep, es⟩ wr we)) (by kernel_rfl) ?_ (fun hHeld => ?_)
            · first | exact HSS.out | exact hSn
            refine wpAnyH_take (i := 0) (oi := { dst := some 29, op := _, type := _, pos := _, after := _, guard := _ }) (v := ?_) rfl (by kernel_rfl) (by kernel_rfl) (by kernel_rfl) (fun _ _ _ h => h) (Or.inl ⟨by rfl, ?_⟩) (by assumption) ?_
            rotate_left
            · intro w hSw; (try dsimp only at hSw); go_simp; (try with_reducible rfl)
            try simp only [Act.put, List.setIfInBounds_toArray, List.set_cons_zero, List.set_cons_succ]
            refine wpAnyH_take (i := 1) (oi := { dst := some 30, op := _, type := _, pos := _, after := _, guard := _ }) (v := ?_) rfl (by kernel_rfl) (by kernel_rfl) (by kernel_rfl) (fun _ _ _ h => h) (Or.inl ⟨by rfl, ?_⟩) (by assumption) ?_
            rotate_left
            · intro w hSw; (try dsimp only at hSw); go_simp; (try with_reducible rfl)
            try simp only [Act.put, List.setIfInBounds_toArray, List.set_cons_zero, List.set_cons_succ]
            refine wpAnyH_take (i := 2) (oi := { dst := some 31, op := _, type := _, pos := _, after := _, guard := _ }) (v := ?_) rfl (by kernel_rfl) (by kernel_rfl) (by kernel_rfl) (fun _ _ _ h => h) (Or.inl ⟨by rfl, ?_⟩) (by assumption) ?_
            rotate_left
            · intro w hSw; (try dsimp only at hSw); go_simp; (try with_reducible rfl)
            try simp only [Act.put, List.setIfInBounds_toArray, List.set_cons_zero, List.set_cons_succ]
            refine wpAnyH_take (i := 3) (oi := { dst := some 32, op := _, type := _, pos := _, after := _, guard := _ }) (v := ?_) rfl (by kernel_rfl) (by kernel_rfl) (by kernel_rfl) (fun _ _ _ h => h) (Or.inl ⟨by rfl, ?_⟩) (by assumption) ?_
            rotate_left
            · intro w hSw; (try dsimp only at hSw); go_simp; (try with_reducible rfl)
            try simp only [Act.put, List.setIfInBounds_toArray, List.set_cons_zero, List.set_cons_succ]
            refine wpAnyH_take (i := 4) (oi := { dst := some 33, op := _, type := _, pos := _, after := _, guard := _ }) (v := ?_) rfl (by kernel_rfl) (by kernel_rfl) (by kernel_rfl) (fun _ _ _ h => h) (Or.inl ⟨by rfl, ?_⟩) (by assumption) ?_
            rotate_left
            · intro w hSw; (try dsimp only at hSw); go_simp; (try with_reducible rfl)
            try simp only [Act.put, List.setIfInBounds_toArray, List.set_cons_zero, List.set_cons_succ]
            refine wpAnyH_ready (rs := [5]) (by kernel_rfl) (by simp) ?_
            refine AllReadyH.cons (o := { dst := some 34, op := _, type := _, pos := _, after := _, guard := _ }) rfl (fun K hK => ?_) ?_
            rotate_left
            · exact AllReadyH.nil
            go_simp
            refine (HLk.out _).mono ?_; rintro e w7 ⟨rfl, hb7⟩; have hSn := hHeld.step hb7; clear hHeld hb7; try go_simp
            refine hK.out _ _ ?_ (fun hHeld => ?_)
            · first | exact HSS.out | exact hSn
            clear hK K
            try simp only [Act.put, List.setIfInBounds_toArray, List.set_cons_zero, List.set_cons_succ]
            refine wpAnyH_take (i := 6) (oi := { dst := some 35, op := _, type := _, pos := _, after := _, guard := _ }) (v := ?_) rfl (by kernel_rfl) (by kernel_rfl) (by kernel_rfl) (fun _ _ _ h => h) (Or.inl ⟨by rfl, ?_⟩) (by assumption) ?_
            rotate_left
            · intro w hSw; (try dsimp only at hSw); go_simp; (try with_reducible rfl)
            try simp only [Act.put, List.setIfInBounds_toArray, List.set_cons_zero, List.set_cons_succ]
            refine wpAnyH_done (by kernel_rfl) ?_ _
            go_wp2_with fail
            go_roundw
            case rel => exact ⟨k + 1, by omega, by omega, by go_num, by rw [HSt.out], andThen hb hHeld.2.2.2.2.2.2.2.2⟩
            case measure => simp [intOf]; omega
        · obtain rfl : k = l.length := by omega
          go_wp2_with fail
          go_ret2
          exact ⟨by rw [HR.out]; rfl, andThen HB4.out hb⟩
    | true =>
      have hri : Nd.rises l = true := hri
      rw [if_pos rfl] at HK
      rw [show Nd.findV true true l e = (((Nd.placeE l e : Nat) : Int), Nd.foundE l e) from rfl]
      have HFO := Lib.hid (And.intro (fun h => found_eq (l := l) (e := e) h) (fun h => Nd.found_out (l := l) (e := e) rfl h))
      have HPI := Lib.hid (fun i (h1 : i ≤ l.length) h2 h3 => Nd.place_is (l := l) (e := e) (i := i) h1 h2 h3)
      have hple := Nd.place_le l e
      generalize Nd.placeE l e = P at HFO HPI hple ⊢
      generalize Nd.foundE l e = F at HFO ⊢
      have HQ := Lib.hid (fun (x : Nd.Entry) W => entry_equal x e W)
      clear hri hpos HLe
      obtain ⟨ek, ep, es⟩ := e
      go_enter Try.func53, Try.ntmps53
      go_upto_region 12 with (first
        | (go_at_call 95; refine (HP.out _).mono ?_; rintro x w1 ⟨v1, v2, rfl, ho1, ho2, hb1⟩; have hcc := ownEs_cells ho1; obtain ⟨A1, c1, rfl, hC1⟩ := hcc; have HC1 := Lib.hid hC1; have HX1 := Lib.hid (blk_old HX.out hb1); have HB1 := Lib.hid (below_past hb1); clear ho1 ho2 hb1 hC1)
        | (go_at_call 20; refine (HK.out _).mono ?_; rintro x w4 ⟨rfl, hb4⟩; have HC4 := Lib.hid (HC1.out.below hb4); have HX4 := Lib.hid (blk_old HX1.out hb4); have HB4 := Lib.hid (andThen HB1.out hb4); clear hb4))
      go_upto_block 2 with (fail)
      go_cut [11] (fun s we => s = .int .i64 (P : Nat) ∧ Below w4.heap.size w4 we)
      case first =>
        go_wp2_with fail
        go_loopw [11] (fun i wr => ∃ k : Nat, k ≤ l.length ∧ i = .int .i64 k ∧ (∀ j (h : j < l.length), j < k → Nd.lessE l[j] ⟨ek, ep, es⟩ = true) ∧ Below w4.heap.size w4 wr) (fun i _ => l.length - (intOf i).toNat)
        case atStart => exact ⟨0, Nat.zero_le _, rfl, fun _ _ h => absurd h (by omega), Below.refl _ _⟩
        case round =>
          obtain ⟨k, hk, rfl, hL, hb⟩ := hrel
          have HL := Lib.hid hL
          clear hL
          by_cases hlt : k < l.length
          · obtain ⟨g, off, rfl, hc, hgl, hE⟩ := (HC4.out.below hb).at_ (by omega)
            have HS0 := heldN_of (b := ⟨ek, ep, es⟩) hE hgl hlt (blk_old HX4.out hb)
            have HSS := Lib.hid (HS0.step (Below.refl _ _).drew)
            have HLk := Lib.hid (HLx.out k hlt)
            have HY := Lib.hid (show Nd.lessE l[k] ⟨ek, ep, es⟩ = true → ∀ j (h : j < l.length), j < k + 1 → Nd.lessE l[j] ⟨ek, ep, es⟩ = true from fun h j hj hjk => by
              rcases Nat.lt_or_eq_of_le (Nat.le_of_lt_succ hjk) with h1 | h1
              · exact HL.out j hj h1
              · subst h1; exact h)
            have HN := Lib.hid (fun (h : Nd.lessE l[k] ⟨ek, ep, es⟩ = false) => HPI.out k hk (fun j hj hjk => HL.out j hj hjk) (fun _ => h))
            clear hE HS0
            generalize l[k] = x at HSS HLk HY HN
            generalize Nd.lessE x ⟨ek, ep, es⟩ = lb at HLk HY HN
            obtain ⟨ak, ap, as_⟩ := x
            have hi1 : (0 : Int) ≤ (k : Int) := by omega
            have hi2 : (k : Int) < (l.length : Int) := by omega
            have hd : decide (k < l.length) = true := decide_eq_true hlt
            cases lb with
            | true =>
              have HY2 := Lib.hid (HY.out rfl)
              clear HY HN
              go_upto_region 13 with (fail)
              refine wp_region_held_drew (S := (fun we => HeldN g (off + k * 3) w.heap.size 0 ⟨ak, ap, as_⟩ ⟨ek, ep, es⟩ wr we)) (by kernel_rfl) ?_ (fun hHeld => ?_)
              · first | exact HSS.out | exact hSn
              refine wpAnyH_take (i := 0) (oi := { dst := some 38, op := _, type := _, pos := _, after := _, guard := _ }) (v := ?_) rfl (by kernel_rfl) (by kernel_rfl) (by kernel_rfl) (fun _ _ _ h => h) (Or.inl ⟨by rfl, ?_⟩) (by assumption) ?_
              rotate_left
              · intro w hSw; (try dsimp only at hSw); go_simp; (try with_reducible rfl)
              try simp only [Act.put, List.setIfInBounds_toArray, List.set_cons_zero, List.set_cons_succ]
              refine wpAnyH_take (i := 1) (oi := { dst := some 39, op := _, type := _, pos := _, after := _, guard := _ }) (v := ?_) rfl (by kernel_rfl) (by kernel_rfl) (by kernel_rfl) (fun _ _ _ h => h) (Or.inl ⟨by rfl, ?_⟩) (by assumption) ?_
              rotate_left
              · intro w hSw; (try dsimp only at hSw); go_simp; (try with_reducible rfl)
              try simp only [Act.put, List.setIfInBounds_toArray, List.set_cons_zero, List.set_cons_succ]
              refine wpAnyH_take (i := 2) (oi := { dst := some 40, op := _, type := _, pos := _, after := _, guard := _ }) (v := ?_) rfl (by kernel_rfl) (by kernel_rfl) (by kernel_rfl) (fun _ _ _ h => h) (Or.inl ⟨by rfl, ?_⟩) (by assumption) ?_
              rotate_left
              · intro w hSw; (try dsimp only at hSw); go_simp; (try with_reducible rfl)
              try simp only [Act.put, List.setIfInBounds_toArray, List.set_cons_zero, List.set_cons_succ]
              refine wpAnyH_take (i := 3) (oi := { dst := some 41, op := _, type := _, pos := _, after := _, guard := _ }) (v := ?_) rfl (by kernel_rfl) (by kernel_rfl) (by kernel_rfl) (fun _ _ _ h => h) (Or.inl ⟨by rfl, ?_⟩) (by assumption) ?_
              rotate_left
              · intro w hSw; (try dsimp only at hSw); go_simp; (try with_reducible rfl)
              try simp only [Act.put, List.setIfInBounds_toArray, List.set_cons_zero, List.set_cons_succ]
              refine wpAnyH_take (i := 4) (oi := { dst := some 42, op := _, type := _, pos := _, after := _, guard := _ }) (v := ?_) rfl (by kernel_rfl) (by kernel_rfl) (by kernel_rfl) (fun _ _ _ h => h) (Or.inl ⟨by rfl, ?_⟩) (by assumption) ?_
              rotate_left
              · intro w hSw; (try dsimp only at hSw); go_simp; (try with_reducible rfl)
              try simp only [Act.put, List.setIfInBounds_toArray, List.set_cons_zero, List.set_cons_succ]
              refine wpAnyH_take (i := 5) (oi := { dst := some 43, op := _, type := _, pos := _, after := _, guard := _ }) (v := ?_) rfl (by kernel_rfl) (by kernel_rfl) (by kernel_rfl) (fun _ _ _ h => h) (Or.inl ⟨by rfl, ?_⟩) (by assumption) ?_
              rotate_left
              · intro w hSw; (try dsimp only at hSw); go_simp; (try with_reducible rfl)
              try simp only [Act.put, List.setIfInBounds_toArray, List.set_cons_zero, List.set_cons_succ]
              refine wpAnyH_take (i := 6) (oi := { dst := some 44, op := _, type := _, pos := _, after := _, guard := _ }) (v := ?_) rfl (by kernel_rfl) (by kernel_rfl) (by kernel_rfl) (fun _ _ _ h => h) (Or.inl ⟨by rfl, ?_⟩) (by assumption) ?_
              rotate_left
              · intro w hSw; (try dsimp only at hSw); go_simp; (try with_reducible rfl)
              try simp only [Act.put, List.setIfInBounds_toArray, List.set_cons_zero, List.set_cons_succ]
              refine wpAnyH_take (i := 7) (oi := { dst := some 45, op := _, type := _, pos := _, after := _, guard := _ }) (v := ?_) rfl (by kernel_rfl) (by kernel_rfl) (by kernel_rfl) (fun _ _ _ h => h) (Or.inl ⟨by rfl, ?_⟩) (by assumption) ?_
              rotate_left
              · intro w hSw; (try dsimp only at hSw); go_simp; (try with_reducible rfl)
              try simp only [Act.put, List.setIfInBounds_toArray, List.set_cons_zero, List.set_cons_succ]
              refine wpAnyH_take (i := 8) (oi := { dst := some 46, op := _, type := _, pos := _, after := _, guard := _ }) (v := ?_) rfl (by kernel_rfl) (by kernel_rfl) (by kernel_rfl) (fun _ _ _ h => h) (Or.inl ⟨by rfl, ?_⟩) (by assumption) ?_
              rotate_left
              · intro w hSw; (try dsimp only at hSw); go_simp; (try with_reducible rfl)
              try simp only [Act.put, List.setIfInBounds_toArray, List.set_cons_zero, List.set_cons_succ]
              refine wpAnyH_take (i := 9) (oi := { dst := some 47, op := _, type := _, pos := _, after := _, guard := _ }) (v := ?_) rfl (by kernel_rfl) (by kernel_rfl) (by kernel_rfl) (fun _ _ _ h => h) (Or.inl ⟨by rfl, ?_⟩) (by assumption) ?_
              rotate_left
              · intro w hSw; (try dsimp only at hSw); go_simp; (try with_reducible rfl)
              try simp only [Act.put, List.setIfInBounds_toArray, List.set_cons_zero, List.set_cons_succ]
              refine wpAnyH_ready (rs := [10]) (by kernel_rfl) (by simp) ?_
              refine AllReadyH.cons (o := { dst := some 48, op := _, type := _, pos := _, after := _, guard := _ }) rfl (fun K hK => ?_) ?_
              rotate_left
              · exact AllReadyH.nil
              go_simp
              refine (HLk.out _).mono ?_; rintro e w7 ⟨rfl, hb7⟩; have hSn := hHeld.step hb7; clear hHeld hb7; try go_simp
              refine hK.out _ _ ?_ (fun hHeld => ?_)
              · first | exact HSS.out | exact hSn
              clear hK K
              try simp only [Act.put, List.setIfInBounds_toArray, List.set_cons_zero, List.set_cons_succ]
              refine wpAnyH_take (i := 11) (oi := { dst := some 49, op := _, type := _, pos := _, after := _, guard := _ }) (v := ?_) rfl (by kernel_rfl) (by kernel_rfl) (by kernel_rfl) (fun _ _ _ h => h) (Or.inl ⟨by rfl, ?_⟩) (by assumption) ?_
              rotate_left
              · intro w hSw; (try dsimp only at hSw); go_simp; (try with_reducible rfl)
              try simp only [Act.put, List.setIfInBounds_toArray, List.set_cons_zero, List.set_cons_succ]
              refine wpAnyH_done (by kernel_rfl) ?_ _
              go_wp2_with fail
              go_roundw
              case rel => exact ⟨k + 1, by omega, by go_num, HY2.out, andThen hb hHeld.2.2.2.2.2.2.2.2⟩
              case measure => simp [intOf]; omega
            | false =>
              have HN2 := Lib.hid (HN.out rfl)
              clear HY HN
              go_upto_region 13 with (fail)
              refine wp_region_held_drew (S := (fun we => HeldN g (off + k * 3) w.heap.size 0 ⟨ak, ap, as_⟩ ⟨ek, ep, es⟩ wr we)) (by kernel_rfl) ?_ (fun hHeld => ?_)
              · first | exact HSS.out | exact hSn
              refine wpAnyH_take (i := 0) (oi := { dst := some 38, op := _, type := _, pos := _, after := _, guard := _ }) (v := ?_) rfl (by kernel_rfl) (by kernel_rfl) (by kernel_rfl) (fun _ _ _ h => h) (Or.inl ⟨by rfl, ?_⟩) (by assumption) ?_
              rotate_left
              · intro w hSw; (try dsimp only at hSw); go_simp; (try with_reducible rfl)
              try simp only [Act.put, List.setIfInBounds_toArray, List.set_cons_zero, List.set_cons_succ]
              refine wpAnyH_take (i := 1) (oi := { dst := some 39, op := _, type := _, pos := _, after := _, guard := _ }) (v := ?_) rfl (by kernel_rfl) (by kernel_rfl) (by kernel_rfl) (fun _ _ _ h => h) (Or.inl ⟨by rfl, ?_⟩) (by assumption) ?_
              rotate_left
              · intro w hSw; (try dsimp only at hSw); go_simp; (try with_reducible rfl)
              try simp only [Act.put, List.setIfInBounds_toArray, List.set_cons_zero, List.set_cons_succ]
              refine wpAnyH_take (i := 2) (oi := { dst := some 40, op := _, type := _, pos := _, after := _, guard := _ }) (v := ?_) rfl (by kernel_rfl) (by kernel_rfl) (by kernel_rfl) (fun _ _ _ h => h) (Or.inl ⟨by rfl, ?_⟩) (by assumption) ?_
              rotate_left
              · intro w hSw; (try dsimp only at hSw); go_simp; (try with_reducible rfl)
              try simp only [Act.put, List.setIfInBounds_toArray, List.set_cons_zero, List.set_cons_succ]
              refine wpAnyH_take (i := 3) (oi := { dst := some 41, op := _, type := _, pos := _, after := _, guard := _ }) (v := ?_) rfl (by kernel_rfl) (by kernel_rfl) (by kernel_rfl) (fun _ _ _ h => h) (Or.inl ⟨by rfl, ?_⟩) (by assumption) ?_
              rotate_left
              · intro w hSw; (try dsimp only at hSw); go_simp; (try with_reducible rfl)
              try simp only [Act.put, List.setIfInBounds_toArray, List.set_cons_zero, List.set_cons_succ]
              refine wpAnyH_take (i := 4) (oi := { dst := some 42, op := _, type := _, pos := _, after := _, guard := _ }) (v := ?_) rfl (by kernel_rfl) (by kernel_rfl) (by kernel_rfl) (fun _ _ _ h => h) (Or.inl ⟨by rfl, ?_⟩) (by assumption) ?_
              rotate_left
              · intro w hSw; (try dsimp only at hSw); go_simp; (try with_reducible rfl)
              try simp only [Act.put, List.setIfInBounds_toArray, List.set_cons_zero, List.set_cons_succ]
              refine wpAnyH_take (i := 5) (oi := { dst := some 43, op := _, type := _, pos := _, after := _, guard := _ }) (v := ?_) rfl (by kernel_rfl) (by kernel_rfl) (by kernel_rfl) (fun _ _ _ h => h) (Or.inl ⟨by rfl, ?_⟩) (by assumption) ?_
              rotate_left
              · intro w hSw; (try dsimp only at hSw); go_simp; (try with_reducible rfl)
              try simp only [Act.put, List.setIfInBounds_toArray, List.set_cons_zero, List.set_cons_succ]
              refine wpAnyH_take (i := 6) (oi := { dst := some 44, op := _, type := _, pos := _, after := _, guard := _ }) (v := ?_) rfl (by kernel_rfl) (by kernel_rfl) (by kernel_rfl) (fun _ _ _ h => h) (Or.inl ⟨by rfl, ?_⟩) (by assumption) ?_
              rotate_left
              · intro w hSw; (try dsimp only at hSw); go_simp; (try with_reducible rfl)
              try simp only [Act.put, List.setIfInBounds_toArray, List.set_cons_zero, List.set_cons_succ]
              refine wpAnyH_take (i := 7) (oi := { dst := some 45, op := _, type := _, pos := _, after := _, guard := _ }) (v := ?_) rfl (by kernel_rfl) (by kernel_rfl) (by kernel_rfl) (fun _ _ _ h => h) (Or.inl ⟨by rfl, ?_⟩) (by assumption) ?_
              rotate_left
              · intro w hSw; (try dsimp only at hSw); go_simp; (try with_reducible rfl)
              try simp only [Act.put, List.setIfInBounds_toArray, List.set_cons_zero, List.set_cons_succ]
              refine wpAnyH_take (i := 8) (oi := { dst := some 46, op := _, type := _, pos := _, after := _, guard := _ }) (v := ?_) rfl (by kernel_rfl) (by kernel_rfl) (by kernel_rfl) (fun _ _ _ h => h) (Or.inl ⟨by rfl, ?_⟩) (by assumption) ?_
              rotate_left
              · intro w hSw; (try dsimp only at hSw); go_simp; (try with_reducible rfl)
              try simp only [Act.put, List.setIfInBounds_toArray, List.set_cons_zero, List.set_cons_succ]
              refine wpAnyH_take (i := 9) (oi := { dst := some 47, op := _, type := _, pos := _, after := _, guard := _ }) (v := ?_) rfl (by kernel_rfl) (by kernel_rfl) (by kernel_rfl) (fun _ _ _ h => h) (Or.inl ⟨by rfl, ?_⟩) (by assumption) ?_
              rotate_left
              · intro w hSw; (try dsimp only at hSw); go_simp; (try with_reducible rfl)
              try simp only [Act.put, List.setIfInBounds_toArray, List.set_cons_zero, List.set_cons_succ]
              refine wpAnyH_ready (rs := [10]) (by kernel_rfl) (by simp) ?_
              refine AllReadyH.cons (o := { dst := some 48, op := _, type := _, pos := _, after := _, guard := _ }) rfl (fun K hK => ?_) ?_
              rotate_left
              · exact AllReadyH.nil
              go_simp
              refine (HLk.out _).mono ?_; rintro e w7 ⟨rfl, hb7⟩; have hSn := hHeld.step hb7; clear hHeld hb7; try go_simp
              refine hK.out _ _ ?_ (fun hHeld => ?_)
              · first | exact HSS.out | exact hSn
              clear hK K
              try simp only [Act.put, List.setIfInBounds_toArray, List.set_cons_zero, List.set_cons_succ]
              refine wpAnyH_take (i := 11) (oi := { dst := some 49, op := _, type := _, pos := _, after := _, guard := _ }) (v := ?_) rfl (by kernel_rfl) (by kernel_rfl) (by kernel_rfl) (fun _ _ _ h => h) (Or.inl ⟨by rfl, ?_⟩) (by assumption) ?_
              rotate_left
              · intro w hSw; (try dsimp only at hSw); go_simp; (try with_reducible rfl)
              try simp only [Act.put, List.setIfInBounds_toArray, List.set_cons_zero, List.set_cons_succ]
              refine wpAnyH_done (by kernel_rfl) ?_ _
              go_wp2_with fail
              go_meet
              case rel => exact ⟨by rw [HN2.out], andThen hb hHeld.2.2.2.2.2.2.2.2⟩
          · obtain rfl : k = l.length := by omega
            have HN2 := Lib.hid (HPI.out l.length hk (fun j hj hjk => HL.out j hj hjk) (fun h => absurd h (by omega)))
            have hd : decide (l.length < l.length) = false := decide_eq_false (by omega)
            have HSS := Lib.hid (show Below wr.heap.size wr wr.drew from (Below.refl _ _).drew)
            go_upto_region 13 with (fail)
            refine wp_region_held_drew (S := (fun we => Below wr.heap.size wr we)) (by kernel_rfl) ?_ (fun hHeld => ?_)
            · first | exact HSS.out | exact hSn
            refine wpAnyH_take (i := 0) (oi := { dst := some 38, op := _, type := _, pos := _, after := _, guard := _ }) (v := ?_) rfl (by kernel_rfl) (by kernel_rfl) (by kernel_rfl) (fun _ _ _ h => h) (Or.inl ⟨by rfl, ?_⟩) (by assumption) ?_
            rotate_left
            · intro w hSw; (try dsimp only at hSw); go_simp; (try with_reducible rfl)
            try simp only [Act.put, List.setIfInBounds_toArray, List.set_cons_zero, List.set_cons_succ]
            refine wpAnyH_take (i := 1) (oi := { dst := some 39, op := _, type := _, pos := _, after := _, guard := _ }) (v := ?_) rfl (by kernel_rfl) (by kernel_rfl) (by kernel_rfl) (fun _ _ _ h => h) (Or.inl ⟨by rfl, ?_⟩) (by assumption) ?_
            rotate_left
            · intro w hSw; (try dsimp only at hSw); go_simp; (try with_reducible rfl)
            try simp only [Act.put, List.setIfInBounds_toArray, List.set_cons_zero, List.set_cons_succ]
            refine wpAnyH_take (i := 2) (oi := { dst := some 40, op := _, type := _, pos := _, after := _, guard := _ }) (v := ?_) rfl (by kernel_rfl) (by kernel_rfl) (by kernel_rfl) (fun _ _ _ h => h) (Or.inl ⟨by rfl, ?_⟩) (by assumption) ?_
            rotate_left
            · intro w hSw; (try dsimp only at hSw); go_simp; (try with_reducible rfl)
            try simp only [Act.put, List.setIfInBounds_toArray, List.set_cons_zero, List.set_cons_succ]
            refine wpAnyH_take (i := 3) (oi := { dst := some 41, op := _, type := _, pos := _, after := _, guard := _ }) (v := ?_) rfl (by kernel_rfl) (by kernel_rfl) (by kernel_rfl) (fun _ _ _ h => h) (Or.inl ⟨by rfl, ?_⟩) (by assumption) ?_
            rotate_left
            · intro w hSw; (try dsimp only at hSw); go_simp; (try with_reducible rfl)
            try simp only [Act.put, List.setIfInBounds_toArray, List.set_cons_zero, List.set_cons_succ]
            refine wpAnyH_take (i := 4) (oi := { dst := some 42, op := _, type := _, pos := _, after := _, guard := _ }) (v := ?_) rfl (by kernel_rfl) (by kernel_rfl) (by kernel_rfl) (fun _ _ _ h => h) (Or.inl ⟨by rfl, ?_⟩) (by assumption) ?_
            rotate_left
            · intro w hSw; (try dsimp only at hSw); go_simp; (try with_reducible rfl)
            try simp only [Act.put, List.setIfInBounds_toArray, List.set_cons_zero, List.set_cons_succ]
            refine wpAnyH_take (i := 5) (oi := { dst := some 43, op := _, type := _, pos := _, after := _, guard := _ }) (v := undef) rfl (by kernel_rfl) (by kernel_rfl) (by kernel_rfl) (fun _ _ _ h => h) (Or.inr ⟨by rfl, rfl⟩) (by assumption) ?_
            try simp only [Act.put, List.setIfInBounds_toArray, List.set_cons_zero, List.set_cons_succ]
            refine wpAnyH_take (i := 6) (oi := { dst := some 44, op := _, type := _, pos := _, after := _, guard := _ }) (v := undef) rfl (by kernel_rfl) (by kernel_rfl) (by kernel_rfl) (fun _ _ _ h => h) (Or.inr ⟨by rfl, rfl⟩) (by assumption) ?_
            try simp only [Act.put, List.setIfInBounds_toArray, List.set_cons_zero, List.set_cons_succ]
            refine wpAnyH_take (i := 7) (oi := { dst := some 45, op := _, type := _, pos := _, after := _, guard := _ }) (v := undef) rfl (by kernel_rfl) (by kernel_rfl) (by kernel_rfl) (fun _ _ _ h => h) (Or.inr ⟨by rfl, rfl⟩) (by assumption) ?_
            try simp only [Act.put, List.setIfInBounds_toArray, List.set_cons_zero, List.set_cons_succ]
            refine wpAnyH_take (i := 8) (oi := { dst := some 46, op := _, type := _, pos := _, after := _, guard := _ }) (v := undef) rfl (by kernel_rfl) (by kernel_rfl) (by kernel_rfl) (fun _ _ _ h => h) (Or.inr ⟨by rfl, rfl⟩) (by assumption) ?_
            try simp only [Act.put, List.setIfInBounds_toArray, List.set_cons_zero, List.set_cons_succ]
            refine wpAnyH_take (i := 9) (oi := { dst := some 47, op := _, type := _, pos := _, after := _, guard := _ }) (v := undef) rfl (by kernel_rfl) (by kernel_rfl) (by kernel_rfl) (fun _ _ _ h => h) (Or.inr ⟨by rfl, rfl⟩) (by assumption) ?_
            try simp only [Act.put, List.setIfInBounds_toArray, List.set_cons_zero, List.set_cons_succ]
            refine wpAnyH_take (i := 10) (oi := { dst := some 48, op := _, type := _, pos := _, after := _, guard := _ }) (v := undef) rfl (by kernel_rfl) (by kernel_rfl) (by kernel_rfl) (fun _ _ _ h => h) (Or.inr ⟨by rfl, rfl⟩) (by assumption) ?_
            try simp only [Act.put, List.setIfInBounds_toArray, List.set_cons_zero, List.set_cons_succ]
            refine wpAnyH_take (i := 11) (oi := { dst := some 49, op := _, type := _, pos := _, after := _, guard := _ }) (v := ?_) rfl (by kernel_rfl) (by kernel_rfl) (by kernel_rfl) (fun _ _ _ h => h) (Or.inl ⟨by rfl, ?_⟩) (by assumption) ?_
            rotate_left
            · intro w hSw; (try dsimp only at hSw); go_simp; (try with_reducible rfl)
            try simp only [Act.put, List.setIfInBounds_toArray, List.set_cons_zero, List.set_cons_succ]
            refine wpAnyH_done (by kernel_rfl) ?_ _
            go_wp2_with fail
            go_meet
            case rel => exact ⟨by rw [HN2.out], andThen hb hHeld⟩
      case rest =>
        obtain ⟨rfl, hb⟩ := hcut
        obtain ⟨wr, rfl⟩ : ∃ wr : World, wr = wc := ⟨_, rfl⟩
        by_cases hml : P < l.length
        · obtain ⟨g, off, rfl, hc, hgl, hE⟩ := (HC4.out.below hb).at_ (by omega)
          have HS0 := heldN_of (b := ⟨ek, ep, es⟩) hE hgl hml (blk_old HX4.out hb)
          have HSS := Lib.hid (HS0.step (Below.refl _ _).drew)
          have hFq := HFO.out.1 hml
          have hq := HQ.out l[P]
          have HFQ := Lib.hid hFq
          clear hE HS0 HFO HQ hFq
          generalize l[P] = x at HSS hq HFQ
          generalize Nd.eqE x ⟨ek, ep, es⟩ = q at hq HFQ
          obtain ⟨ak, ap, as_⟩ := x
          have hi1 : (0 : Int) ≤ (P : Int) := by omega
          have hi2 : (P : Int) < (l.length : Int) := by omega
          have hd : decide (P < l.length) = true := decide_eq_true hml
          go_upto_region 15 with (fail)
          refine wp_region_held_drew (S := (fun we => HeldN g (off + P * 3) w.heap.size 0 ⟨ak, ap, as_⟩ ⟨ek, ep, es⟩ wr we)) (by kernel_rfl) ?_ (fun hHeld => ?_)
          · first | exact HSS.out | exact hSn
          refine wpAnyH_take (i := 0) (oi := { dst := some 52, op := _, type := _, pos := _, after := _, guard := _ }) (v := ?_) rfl (by kernel_rfl) (by kernel_rfl) (by kernel_rfl) (fun _ _ _ h => h) (Or.inl ⟨by rfl, ?_⟩) (by assumption) ?_
          rotate_left
          · intro w hSw; (try dsimp only at hSw); go_simp; (try with_reducible rfl)
          try simp only [Act.put, List.setIfInBounds_toArray, List.set_cons_zero, List.set_cons_succ]
          refine wpAnyH_take (i := 1) (oi := { dst := some 53, op := _, type := _, pos := _, after := _, guard := _ }) (v := ?_) rfl (by kernel_rfl) (by kernel_rfl) (by kernel_rfl) (fun _ _ _ h => h) (Or.inl ⟨by rfl, ?_⟩) (by assumption) ?_
          rotate_left
          · intro w hSw; (try dsimp only at hSw); go_simp; (try with_reducible rfl)
          try simp only [Act.put, List.setIfInBounds_toArray, List.set_cons_zero, List.set_cons_succ]
          refine wpAnyH_take (i := 2) (oi := { dst := some 54, op := _, type := _, pos := _, after := _, guard := _ }) (v := ?_) rfl (by kernel_rfl) (by kernel_rfl) (by kernel_rfl) (fun _ _ _ h => h) (Or.inl ⟨by rfl, ?_⟩) (by assumption) ?_
          rotate_left
          · intro w hSw; (try dsimp only at hSw); go_simp; (try with_reducible rfl)
          try simp only [Act.put, List.setIfInBounds_toArray, List.set_cons_zero, List.set_cons_succ]
          refine wpAnyH_take (i := 3) (oi := { dst := some 55, op := _, type := _, pos := _, after := _, guard := _ }) (v := ?_) rfl (by kernel_rfl) (by kernel_rfl) (by kernel_rfl) (fun _ _ _ h => h) (Or.inl ⟨by rfl, ?_⟩) (by assumption) ?_
          rotate_left
          · intro w hSw; (try dsimp only at hSw); go_simp; (try with_reducible rfl)
          try simp only [Act.put, List.setIfInBounds_toArray, List.set_cons_zero, List.set_cons_succ]
          refine wpAnyH_take (i := 4) (oi := { dst := some 56, op := _, type := _, pos := _, after := _, guard := _ }) (v := ?_) rfl (by kernel_rfl) (by kernel_rfl) (by kernel_rfl) (fun _ _ _ h => h) (Or.inl ⟨by rfl, ?_⟩) (by assumption) ?_
          rotate_left
          · intro w hSw; (try dsimp only at hSw); go_simp; (try with_reducible rfl)
          try simp only [Act.put, List.setIfInBounds_toArray, List.set_cons_zero, List.set_cons_succ]
          refine wpAnyH_take (i := 5) (oi := { dst := some 57, op := _, type := _, pos := _, after := _, guard := _ }) (v := ?_) rfl (by kernel_rfl) (by kernel_rfl) (by kernel_rfl) (fun _ _ _ h => h) (Or.inl ⟨by rfl, ?_⟩) (by assumption) ?_
          rotate_left
          · intro w hSw; (try dsimp only at hSw); go_simp; (try with_reducible rfl)
          try simp only [Act.put, List.setIfInBounds_toArray, List.set_cons_zero, List.set_cons_succ]
          refine wpAnyH_take (i := 6) (oi := { dst := some 58, op := _, type := _, pos := _, after := _, guard := _ }) (v := ?_) rfl (by kernel_rfl) (by kernel_rfl) (by kernel_rfl) (fun _ _ _ h => h) (Or.inl ⟨by rfl, ?_⟩) (by assumption) ?_
          rotate_left
          · intro w hSw; (try dsimp only at hSw); go_simp; (try with_reducible rfl)
          try simp only [Act.put, List.setIfInBounds_toArray, List.set_cons_zero, List.set_cons_succ]
          refine wpAnyH_take (i := 7) (oi := { dst := some 59, op := _, type := _, pos := _, after := _, guard := _ }) (v := ?_) rfl (by kernel_rfl) (by kernel_rfl) (by kernel_rfl) (fun _ _ _ h => h) (Or.inl ⟨by rfl, ?_⟩) (by assumption) ?_
          rotate_left
          · intro w hSw; (try dsimp only at hSw); go_simp; (try with_reducible rfl)
          try simp only [Act.put, List.setIfInBounds_toArray, List.set_cons_zero, List.set_cons_succ]
          refine wpAnyH_take (i := 8) (oi := { dst := some 60, op := _, type := _, pos := _, after := _, guard := _ }) (v := ?_) rfl (by kernel_rfl) (by kernel_rfl) (by kernel_rfl) (fun _ _ _ h => h) (Or.inl ⟨by rfl, ?_⟩) (by assumption) ?_
          rotate_left
          · intro w hSw; (try dsimp only at hSw); go_simp; (try with_reducible rfl)
          try simp only [Act.put, List.setIfInBounds_toArray, List.set_cons_zero, List.set_cons_succ]
          refine wpAnyH_take (i := 9) (oi := { dst := some 61, op := _, type := _, pos := _, after := _, guard := _ }) (v := ?_) rfl (by kernel_rfl) (by kernel_rfl) (by kernel_rfl) (fun _ _ _ h => h) (Or.inl ⟨by rfl, ?_⟩) (by assumption) ?_
          rotate_left
          · intro w hSw; (try dsimp only at hSw); go_simp; (try with_reducible rfl)
          try simp only [Act.put, List.setIfInBounds_toArray, List.set_cons_zero, List.set_cons_succ]
          refine wpAnyH_take (i := 10) (oi := { dst := some 62, op := _, type := _, pos := _, after := _, guard := _ }) (v := ?_) rfl (by kernel_rfl) (by kernel_rfl) (by kernel_rfl) (fun _ _ _ h => h) (Or.inl ⟨by rfl, ?_⟩) (by assumption) ?_
          rotate_left
          · intro w hSw; (try dsimp only at hSw); go_simp; (try with_reducible rfl)
          try simp only [Act.put, List.setIfInBounds_toArray, List.set_cons_zero, List.set_cons_succ]
          refine wpAnyH_take (i := 11) (oi := { dst := some 63, op := _, type := _, pos := _, after := _, guard := _ }) (v := ?_) rfl (by kernel_rfl) (by kernel_rfl) (by kernel_rfl) (fun _ _ _ h => h) (Or.inl ⟨by rfl, ?_⟩) (by assumption) ?_
          rotate_left
          · intro w hSw; (try dsimp only at hSw); go_simp; (try with_reducible rfl)
          try simp only [Act.put, List.setIfInBounds_toArray, List.set_cons_zero, List.set_cons_succ]
          refine wpAnyH_take (i := 12) (oi := { dst := some 64, op := _, type := _, pos := _, after := _, guard := _ }) (v := ?_) rfl (by kernel_rfl) (by kernel_rfl) (by kernel_rfl) (fun _ _ _ h => h) (Or.inl ⟨by rfl, ?_⟩) (by assumption) ?_
          rotate_left
          · intro w hSw; (try dsimp only at hSw); go_simp; (try with_reducible rfl)
          try simp only [Act.put, List.setIfInBounds_toArray, List.set_cons_zero, List.set_cons_succ]
          refine wpAnyH_take (i := 13) (oi := { dst := some 4, op := _, type := _, pos := _, after := _, guard := _ }) (v := ?_) rfl (by kernel_rfl) (by kernel_rfl) (by kernel_rfl) (fun _ _ _ h => h) (Or.inl ⟨by rfl, ?_⟩) (by assumption) ?_
          rotate_left
          · intro w hSw; (try dsimp only at hSw); go_simp; (try with_reducible rfl)
          try simp only [Act.put, List.setIfInBounds_toArray, List.set_cons_zero, List.set_cons_succ]
          refine wpAnyH_take (i := 14) (oi := { dst := some 5, op := _, type := _, pos := _, after := _, guard := _ }) (v := ?_) rfl (by kernel_rfl) (by kernel_rfl) (by kernel_rfl) (fun _ _ _ h => h) (Or.inl ⟨by rfl, ?_⟩) (by assumption) ?_
          rotate_left
          · intro w hSw; (try dsimp only at hSw); go_simp; (try with_reducible rfl)
          try simp only [Act.put, List.setIfInBounds_toArray, List.set_cons_zero, List.set_cons_succ]
          refine wpAnyH_done (by kernel_rfl) ?_ _
          go_wp2_with fail
          go_ret2
          exact ⟨by rw [HFQ.out]; rfl, andThen (andThen HB4.out hb) hHeld.2.2.2.2.2.2.2.2⟩
        · have HFQ := Lib.hid (HFO.out.2 (by omega))
          have hd : decide (P < l.length) = false := decide_eq_false hml
          have HSS := Lib.hid (show Below wr.heap.size wr wr.drew from (Below.refl _ _).drew)
          clear HFO HQ
          go_upto_region 15 with (fail)
          refine wp_region_held_drew (S := (fun we => Below wr.heap.size wr we)) (by kernel_rfl) ?_ (fun hHeld => ?_)
          · first | exact HSS.out | exact hSn
          refine wpAnyH_take (i := 0) (oi := { dst := some 52, op := _, type := _, pos := _, after := _, guard := _ }) (v := ?_) rfl (by kernel_rfl) (by kernel_rfl) (by kernel_rfl) (fun _ _ _ h => h) (Or.inl ⟨by rfl, ?_⟩) (by assumption) ?_
          rotate_left
          · intro w hSw; (try dsimp only at hSw); go_simp; (try with_reducible rfl)
          try simp only [Act.put, List.setIfInBounds_toArray, List.set_cons_zero, List.set_cons_succ]
          refine wpAnyH_take (i := 1) (oi := { dst := some 53, op := _, type := _, pos := _, after := _, guard := _ }) (v := ?_) rfl (by kernel_rfl) (by kernel_rfl) (by kernel_rfl) (fun _ _ _ h => h) (Or.inl ⟨by rfl, ?_⟩) (by assumption) ?_
          rotate_left
          · intro w hSw; (try dsimp only at hSw); go_simp; (try with_reducible rfl)
          try simp only [Act.put, List.setIfInBounds_toArray, List.set_cons_zero, List.set_cons_succ]
          refine wpAnyH_take (i := 2) (oi := { dst := some 54, op := _, type := _, pos := _, after := _, guard := _ }) (v := ?_) rfl (by kernel_rfl) (by kernel_rfl) (by kernel_rfl) (fun _ _ _ h => h) (Or.inl ⟨by rfl, ?_⟩) (by assumption) ?_
          rotate_left
          · intro w hSw; (try dsimp only at hSw); go_simp; (try with_reducible rfl)
          try simp only [Act.put, List.setIfInBounds_toArray, List.set_cons_zero, List.set_cons_succ]
          refine wpAnyH_take (i := 3) (oi := { dst := some 55, op := _, type := _, pos := _, after := _, guard := _ }) (v := ?_) rfl (by kernel_rfl) (by kernel_rfl) (by kernel_rfl) (fun _ _ _ h => h) (Or.inl ⟨by rfl, ?_⟩) (by assumption) ?_
          rotate_left
          · intro w hSw; (try dsimp only at hSw); go_simp; (try with_reducible rfl)
          try simp only [Act.put, List.setIfInBounds_toArray, List.set_cons_zero, List.set_cons_succ]
          refine wpAnyH_take (i := 4) (oi := { dst := some 56, op := _, type := _, pos := _, after := _, guard := _ }) (v := ?_) rfl (by kernel_rfl) (by kernel_rfl) (by kernel_rfl) (fun _ _ _ h => h) (Or.inl ⟨by rfl, ?_⟩) (by assumption) ?_
          rotate_left
          · intro w hSw; (try dsimp only at hSw); go_simp; (try with_reducible rfl)
          try simp only [Act.put, List.setIfInBounds_toArray, List.set_cons_zero, List.set_cons_succ]
          refine wpAnyH_take (i := 5) (oi := { dst := some 57, op := _, type := _, pos := _, after := _, guard := _ }) (v := ?_) rfl (by kernel_rfl) (by kernel_rfl) (by kernel_rfl) (fun _ _ _ h => h) (Or.inl ⟨by rfl, ?_⟩) (by assumption) ?_
          rotate_left
          · intro w hSw; (try dsimp only at hSw); go_simp; (try with_reducible rfl)
          try simp only [Act.put, List.setIfInBounds_toArray, List.set_cons_zero, List.set_cons_succ]
          refine wpAnyH_take (i := 6) (oi := { dst := some 58, op := _, type := _, pos := _, after := _, guard := _ }) (v := undef) rfl (by kernel_rfl) (by kernel_rfl) (by kernel_rfl) (fun _ _ _ h => h) (Or.inr ⟨by rfl, rfl⟩) (by assumption) ?_
          try simp only [Act.put, List.setIfInBounds_toArray, List.set_cons_zero, List.set_cons_succ]
          refine wpAnyH_take (i := 7) (oi := { dst := some 59, op := _, type := _, pos := _, after := _, guard := _ }) (v := undef) rfl (by kernel_rfl) (by kernel_rfl) (by kernel_rfl) (fun _ _ _ h => h) (Or.inr ⟨by rfl, rfl⟩) (by assumption) ?_
          try simp only [Act.put, List.setIfInBounds_toArray, List.set_cons_zero, List.set_cons_succ]
          refine wpAnyH_take (i := 8) (oi := { dst := some 60, op := _, type := _, pos := _, after := _, guard := _ }) (v := undef) rfl (by kernel_rfl) (by kernel_rfl) (by kernel_rfl) (fun _ _ _ h => h) (Or.inr ⟨by rfl, rfl⟩) (by assumption) ?_
          try simp only [Act.put, List.setIfInBounds_toArray, List.set_cons_zero, List.set_cons_succ]
          refine wpAnyH_take (i := 9) (oi := { dst := some 61, op := _, type := _, pos := _, after := _, guard := _ }) (v := undef) rfl (by kernel_rfl) (by kernel_rfl) (by kernel_rfl) (fun _ _ _ h => h) (Or.inr ⟨by rfl, rfl⟩) (by assumption) ?_
          try simp only [Act.put, List.setIfInBounds_toArray, List.set_cons_zero, List.set_cons_succ]
          refine wpAnyH_take (i := 10) (oi := { dst := some 62, op := _, type := _, pos := _, after := _, guard := _ }) (v := undef) rfl (by kernel_rfl) (by kernel_rfl) (by kernel_rfl) (fun _ _ _ h => h) (Or.inr ⟨by rfl, rfl⟩) (by assumption) ?_
          try simp only [Act.put, List.setIfInBounds_toArray, List.set_cons_zero, List.set_cons_succ]
          refine wpAnyH_take (i := 11) (oi := { dst := some 63, op := _, type := _, pos := _, after := _, guard := _ }) (v := undef) rfl (by kernel_rfl) (by kernel_rfl) (by kernel_rfl) (fun _ _ _ h => h) (Or.inr ⟨by rfl, rfl⟩) (by assumption) ?_
          try simp only [Act.put, List.setIfInBounds_toArray, List.set_cons_zero, List.set_cons_succ]
          refine wpAnyH_take (i := 12) (oi := { dst := some 64, op := _, type := _, pos := _, after := _, guard := _ }) (v := ?_) rfl (by kernel_rfl) (by kernel_rfl) (by kernel_rfl) (fun _ _ _ h => h) (Or.inl ⟨by rfl, ?_⟩) (by assumption) ?_
          rotate_left
          · intro w hSw; (try dsimp only at hSw); go_simp; (try with_reducible rfl)
          try simp only [Act.put, List.setIfInBounds_toArray, List.set_cons_zero, List.set_cons_succ]
          refine wpAnyH_take (i := 13) (oi := { dst := some 4, op := _, type := _, pos := _, after := _, guard := _ }) (v := ?_) rfl (by kernel_rfl) (by kernel_rfl) (by kernel_rfl) (fun _ _ _ h => h) (Or.inl ⟨by rfl, ?_⟩) (by assumption) ?_
          rotate_left
          · intro w hSw; (try dsimp only at hSw); go_simp; (try with_reducible rfl)
          try simp only [Act.put, List.setIfInBounds_toArray, List.set_cons_zero, List.set_cons_succ]
          refine wpAnyH_take (i := 14) (oi := { dst := some 5, op := _, type := _, pos := _, after := _, guard := _ }) (v := ?_) rfl (by kernel_rfl) (by kernel_rfl) (by kernel_rfl) (fun _ _ _ h => h) (Or.inl ⟨by rfl, ?_⟩) (by assumption) ?_
          rotate_left
          · intro w hSw; (try dsimp only at hSw); go_simp; (try with_reducible rfl)
          try simp only [Act.put, List.setIfInBounds_toArray, List.set_cons_zero, List.set_cons_succ]
          refine wpAnyH_done (by kernel_rfl) ?_ _
          go_wp2_with fail
          go_ret2
          exact ⟨by rw [HFQ.out]; rfl, andThen (andThen HB4.out hb) hHeld⟩
end Go.Proofs.Ytgbihdlahghonaa
/- The walks over the reference of tree pages: laid, size. -/
namespace Go.Proofs.Ytgbihdlahghonaa
open Go.RowKit

set_option maxRecDepth 100000 in
set_option maxHeartbeats 2000000 in
theorem rsize_any (rs : List ByteArray) (hs : Pg.sumSizes rs ≤ 512) (hlen : rs.length ≤ 123) (A : Option Addr) (c : Nat) (w : World) (h : Cells w A c rs) :
    Calls Try.prog 98 #[.slice A rs.length c] w fun e w' => e = .returned (.int .i64 (Pg.sumSizes rs : Nat)) ∧ w = w' := by
  have HC := Lib.hid h
  clear h
  go_enter Try.func98, Try.ntmps98
  go_wp2_with fail
  go_loop [3, 4] (fun s i => ∃ k : Nat, k ≤ rs.length ∧ i = .int .i64 k ∧ s = .int .i64 (Pg.sumSizes (rs.take k) : Nat)) (fun _ i => rs.length - (intOf i).toNat)
  case atStart => exact ⟨0, Nat.zero_le _, rfl, rfl⟩
  case round =>
    obtain ⟨k, hk, rfl, rfl⟩ := hrel
    by_cases hlt : k < rs.length
    · obtain ⟨b, off, rfl, hc, hbl, hcell⟩ := HC.out.at_ hlt
      have HSN := Lib.hid (Pg.sumSizes_snoc rs k hlt)
      have hs1 := Pg.sumSizes_take_le rs k
      have hs2 := Pg.sumSizes_take_le rs (k + 1)
      rw [HSN.out] at hs2
      generalize Pg.sumSizes (rs.take k) = s0 at HSN hs1 hs2 ⊢
      generalize rs[k] = r at hcell HSN hs2
      go_wp2_with fail
      go_round
      case rel => exact ⟨k + 1, by omega, by go_num, by rw [HSN.out]; go_num⟩
      case measure => simp [intOf]; omega
    · obtain rfl : k = rs.length := by omega
      rw [List.take_length]
      go_wp2_with fail
      go_ret
      exact ⟨rfl, rfl⟩
set_option maxRecDepth 100000 in
set_option maxHeartbeats 2000000 in
theorem rlaid_any (x : Pg.Leaf) (hx : Sub x) (A : Option Addr) (c : Nat) (w : World) (h : Cells w A c x.recs) :
    Calls Try.prog 99 #[.int .i64 x.kind, .int .i64 x.lsn, .int .i64 x.link, .slice A x.recs.length c] w fun e w' => e = .returned (.string (pageB x)) ∧ Below w.heap.size w w' := by
  have HC := Lib.hid h
  obtain ⟨e2, e1, e0⟩ := upTo_zero hx
  have z0 : (newB x.kind).size = 512 := by rw [e0]; exact pageB_size (show Pg.sizeN (Pg.trim []) ≤ 512 by decide)
  have z1 : (lsnB (newB x.kind) x.lsn).size = 512 := by rw [e1]; exact pageB_size (show Pg.sizeN (Pg.trim []) ≤ 512 by decide)
  have HN := Lib.hid (fun W => rnew_any x.kind W)
  have HL := Lib.hid (fun W => rsetlsn_any (newB x.kind) x.lsn (by omega) W)
  have HK := Lib.hid (fun W => rsetlink_any (lsnB (newB x.kind) x.lsn) x.link (by omega) W)
  rw [e2] at HK
  have HP := Lib.hid (fun k (hk : k < x.recs.length) W => (upTo_succ hx hk) ▸ rpput_any (upTo x k) k x.recs[k] (by rw [upTo_size hx]; omega) W)
  have hall := upTo_all x
  have HA := Lib.hid hall
  have hlen := hx.len
  clear h e2 e1 e0 z0 z1 hall
  generalize newB x.kind = q0 at HN HL HK
  generalize lsnB q0 x.lsn = q1 at HL HK
  generalize upTo x = f at HK HP HA
  obtain ⟨P, hP⟩ : ∃ P, P = pageB x := ⟨_, rfl⟩
  rw [← hP] at HA ⊢
  clear hP hx
  obtain ⟨lsn, kind, link, rs⟩ := x
  simp only at HN HL HK HP HA HC hlen ⊢
  go_enter Try.func99, Try.ntmps99
  go_wp2_with (first | (go_at_call 38; refine (HN.out _).mono ?_; rintro e w1 ⟨rfl, hb1⟩) | (go_at_call 40; refine (HL.out _).mono ?_; rintro e w2 ⟨rfl, hb2⟩) | (go_at_call 42; refine (HK.out _).mono ?_; rintro e w3 ⟨rfl, hb3⟩))
  have HB := Lib.hid (andThen (andThen hb1 hb2) hb3)
  clear hb1 hb2 hb3 HN HL HK
  go_loopw [9, 10] (fun p i wr => ∃ k : Nat, k ≤ rs.length ∧ i = .int .i64 k ∧ p = .string (f k) ∧ Below w.heap.size w wr) (fun _ i _ => rs.length - (intOf i).toNat)
  case atStart => exact ⟨0, Nat.zero_le _, rfl, rfl, HB.out⟩
  case round =>
    obtain ⟨k, hk, rfl, rfl, hb⟩ := hrel
    by_cases hlt : k < rs.length
    · obtain ⟨b, off, rfl, hc, hbl, hcell⟩ := (HC.out.below hb).at_ hlt
      have HPk := Lib.hid (fun W => HP.out k hlt W)
      generalize rs[k] = r at hcell HPk
      go_wp2_with (go_at_call 43; refine (HPk.out _).mono ?_; rintro e w4 ⟨rfl, hb4⟩; unfold outV)
      go_roundw
      case rel => exact ⟨k + 1, by omega, by go_num, rfl, andThen hb hb4⟩
      case measure => simp [intOf]; omega
    · obtain rfl : k = rs.length := by omega
      go_wp2_with fail
      go_ret
      exact ⟨by rw [← HA.out]; rfl, hb⟩
end Go.Proofs.Ytgbihdlahghonaa
