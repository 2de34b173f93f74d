/- The walk of NodeOrder. -/
import Derived.Test.YtgbihdlahghonaaGs10
namespace Go.Proofs.Ytgbihdlahghonaa
open Go.RowKit

theorem three_ways {la lb q : Bool} {p : Prop} (h1 : la = true → lb = false) (h2 : la = false → lb = false → p) (h3 : q = true ↔ p) (h4 : p → la = false ∧ lb = false) : (la = true ∧ lb = false ∧ q = false) ∨ (la = false ∧ lb = true ∧ q = false) ∨ (la = false ∧ lb = false ∧ q = true) := by
  cases la with
  | true =>
    refine .inl ⟨rfl, h1 rfl, ?_⟩
    cases q with
    | false => rfl
    | true => cases (h4 (h3.1 rfl)).1
  | false =>
    cases lb with
    | false => exact .inr (.inr ⟨rfl, rfl, h3.2 (h2 rfl rfl)⟩)
    | true =>
      cases q with
      | false => exact .inr (.inl ⟨rfl, rfl, rfl⟩)
      | true => cases (h4 (h3.1 rfl)).2
theorem putE_le (e : Nd.Entry) : (Nd.putE e).size ≤ 140737488355328 := by
  cases h : Nd.mayE e with
  | true =>
    have h1 := Nd.putE_size h
    have h2 := (mayE_yes h).1
    omega
  | false => rw [Nd.putE_none h]; decide
theorem putC_no {e : Nd.Entry} {n : Int} (h : ¬ (Nd.mayE e = true ∧ 0 ≤ n ∧ n < 16777216)) : Nd.putC e n = ⟨#[]⟩ := by unfold Nd.putC; rw [if_neg h]
theorem putC_size {e : Nd.Entry} {n : Int} (h : Nd.mayE e = true ∧ 0 ≤ n ∧ n < 16777216) : (Nd.putC e n).size = 8 + e.key.size := by
  rw [Nd.putC_yes h.1 h.2.1 h.2.2, ByteArray.size_append, Nd.putE_size h.1]
  have := Oct.putB_size n 3 (by omega)
  have e3 : ((3 : Nat) : Int) = 3 := rfl
  rw [e3] at this
  omega
theorem putC_le (e : Nd.Entry) (n : Int) : (Nd.putC e n).size ≤ 140737488355328 := by
  by_cases h : Nd.mayE e = true ∧ 0 ≤ n ∧ n < 16777216
  · have h1 := putC_size h
    have h2 := (mayE_yes h.1).1
    omega
  · rw [putC_no h]; decide
theorem order_bytesE (a : Nd.Entry) : ∃ x xo, Nd.gE (Nd.putE a) = (x, xo) ∧ ((Nd.putE a = ⟨#[]⟩ ∧ xo = false) ∨ (¬ (Nd.putE a).size = 0 ∧ x = a ∧ xo = true)) := by
  cases h : Nd.mayE a with
  | true =>
    refine ⟨a, true, ?_, .inr ⟨by rw [Nd.putE_size h]; omega, rfl, rfl⟩⟩
    unfold Nd.gE; rw [Nd.getE_putE h]
  | false =>
    refine ⟨Nd.zero, false, ?_, .inl ⟨Nd.putE_none h, rfl⟩⟩
    rw [Nd.putE_none h]; rfl
theorem order_bytesC (b : Nd.Entry) (n : Int) : ∃ y yn yo, Nd.gC (Nd.putC b n) = (y, yn, yo) ∧ ((Nd.putC b n = ⟨#[]⟩ ∧ yo = false) ∨ (¬ (Nd.putC b n).size = 0 ∧ y = b ∧ yn = n ∧ yo = true)) := by
  by_cases h : Nd.mayE b = true ∧ 0 ≤ n ∧ n < 16777216
  · refine ⟨b, n, true, ?_, .inr ⟨by rw [putC_size h]; omega, rfl, rfl, rfl⟩⟩
    unfold Nd.gC; rw [Nd.getC_putC h.1 h.2.1 h.2.2]
  · refine ⟨Nd.zero, 0, false, ?_, .inl ⟨putC_no h, rfl⟩⟩
    rw [putC_no h]; rfl
structure Side3 (A B C : Nat) (w0 u : World) : Prop where
  a : A < u.heap.size
  b : B < u.heap.size
  c : C < u.heap.size
  bw : Below w0.heap.size w0 u
abbrev Held3 (A B C : Nat) (a b c : Nd.Entry) (w0 u : World) : Prop := EntAt u A a ∧ EntAt u B b ∧ EntAt u C c ∧ Side3 A B C w0 u
theorem Held3.step {A B C : Nat} {a b c : Nd.Entry} {w0 u v : World} (h : Held3 A B C a b c w0 u) (hb : Below u.heap.size u v) : Held3 A B C a b c w0 v := by
  obtain ⟨h1, h2, h3, t⟩ := h
  have hs := hb.size
  exact ⟨h1.step t.a hb, h2.step t.b hb, h3.step t.c hb, ⟨Nat.lt_of_lt_of_le t.a hs, Nat.lt_of_lt_of_le t.b hs, Nat.lt_of_lt_of_le t.c hs, andThen t.bw hb⟩⟩
theorem three_boxes (w : World) (a b c : Nd.Entry) (T : TypeId) :
    Held3 w.heap.size (w.heap.size + 1) (w.heap.size + 1 + 1) a b c w (((w.alloc (.cells #[.string a.key, .int .i64 a.page, .int .i64 a.slot] T)).alloc (.cells #[.string b.key, .int .i64 b.page, .int .i64 b.slot] T)).alloc (.cells #[.string c.key, .int .i64 c.page, .int .i64 c.slot] T)) := by
  obtain ⟨h1, h2, h3, h4⟩ := three_new w (.cells #[.string a.key, .int .i64 a.page, .int .i64 a.slot] T) (.cells #[.string b.key, .int .i64 b.page, .int .i64 b.slot] T) (.cells #[.string c.key, .int .i64 c.page, .int .i64 c.slot] T)
  exact ⟨entAt_blk h1, entAt_blk h2, entAt_blk h3, ⟨by omega, by omega, by omega, below_past_alloc (below_past_alloc (below_past_alloc (Below.refl _ _)))⟩⟩
set_option maxRecDepth 100000 in
set_option maxHeartbeats 8000000 in
theorem order_law (a b c : Nd.Entry) (child : Int) (ha : a.key.size ≤ 140737488355328) (hb : b.key.size ≤ 140737488355328) (w : World) :
    Calls Try.prog 13 #[entV a, entV b, entV c, .int .i64 child] w fun e w' => e = .returned (.bool true) ∧ Below w.heap.size w w' := by
  have HW := Lib.hid (fun W => nawake_any W)
  have H0 := Lib.hid (three_boxes w a b c 45)
  have HLab := Lib.hid (fun W => less_any a b W)
  have HLba := Lib.hid (fun W => less_any b a W)
  have HLbc := Lib.hid (fun W => less_any b c W)
  have HLac := Lib.hid (fun W => less_any a c W)
  have HP := Lib.hid (fun W => putentry_any a W)
  have HC := Lib.hid (fun W => putchild_any b child W)
  have hqab := fun W => entry_equal a b W
  have hasym : Nd.lessE a b = true → Nd.lessE b a = false := Nd.less_asymm
  have htot : Nd.lessE a b = false → Nd.lessE b a = false → a = b := fun h1 h2 => by
    by_cases h : a = b
    · exact h
    · rcases Nd.less_total h with h3 | h3
      · rw [h1] at h3; cases h3
      · rw [h2] at h3; cases h3
  have hqi := Nd.eqE_iff a b
  have htr : Nd.lessE a b = true → Nd.lessE b c = true → Nd.lessE a c = true := Nd.less_trans
  have hirr : a = b → Nd.lessE a b = false ∧ Nd.lessE b a = false := fun h => by rw [h]; exact ⟨Nd.less_irrefl b, Nd.less_irrefl b⟩
  have HTR := Lib.hid htr
  obtain ⟨ak, ap, as_⟩ := a
  obtain ⟨bk, bp, bs⟩ := b
  obtain ⟨ck, cp, cs⟩ := c
  have HF := Lib.hid (And.intro hasym (And.intro htot (And.intro hqi hirr)))
  clear hasym htot hqi hirr htr
  go_enter Try.func13, Try.ntmps13
  go_upto_region 1 with (fail)
  obtain ⟨V, hV⟩ : ∃ V, V = ((w.alloc (.cells #[.string ak, .int .i64 ap, .int .i64 as_] 45)).alloc (.cells #[.string bk, .int .i64 bp, .int .i64 bs] 45)).alloc (.cells #[.string ck, .int .i64 cp, .int .i64 cs] 45) := ⟨_, rfl⟩
  simp only [← hV] at H0 ⊢
  clear hV
  go_cut [37] (fun s we => s = .bool false ∧ Held3 w.heap.size (w.heap.size + 1) (w.heap.size + 1 + 1) ⟨ak, ap, as_⟩ ⟨bk, bp, bs⟩ ⟨ck, cp, cs⟩ w we)
  case first =>
    have HS0 := Lib.hid (H0.out.step (Below.refl _ _).drew)
    clear H0 HLbc HLac HTR
    generalize Nd.lessE ⟨ak, ap, as_⟩ ⟨bk, bp, bs⟩ = la at HLab HF
    generalize Nd.lessE ⟨bk, bp, bs⟩ ⟨ak, ap, as_⟩ = lb at HLba HF
    generalize Nd.eqE ⟨ak, ap, as_⟩ ⟨bk, bp, bs⟩ = qab at hqab HF
    obtain ⟨hasym, htot, hqi, hirr⟩ := HF.out
    have hways : (la = true ∧ lb = false ∧ qab = false) ∨ (la = false ∧ lb = true ∧ qab = false) ∨ (la = false ∧ lb = false ∧ qab = true) := by
      exact three_ways hasym htot hqi hirr
    clear HF hasym htot hqi hirr
    rcases hways with ⟨rfl, rfl, rfl⟩ | ⟨rfl, rfl, rfl⟩ | ⟨rfl, rfl, rfl⟩
    · skip
      refine wp_region_held_drew (S := (fun we => Held3 w.heap.size (w.heap.size + 1) (w.heap.size + 1 + 1) ⟨ak, ap, as_⟩ ⟨bk, bp, bs⟩ ⟨ck, cp, cs⟩ w we)) (by kernel_rfl) ?_ (fun hHeld => ?_)
      · first | exact HSS.out | exact hSn | exact HS0.out
      refine wpAnyH_take (i := 0) (oi := { dst := some 16, op := _, type := _, pos := _, after := _, guard := _ }) (v := ?_) rfl (by kernel_rfl) (by kernel_rfl) (by kernel_rfl) (fun _ _ _ h => h) (Or.inl ⟨by rfl, ?_⟩) (by assumption) ?_
      rotate_left
      · intro w hSw; (try dsimp only at hSw); go_simp; (try with_reducible rfl)
      try simp only [Act.put, List.setIfInBounds_toArray, List.set_cons_zero, List.set_cons_succ]
      refine wpAnyH_take (i := 1) (oi := { dst := some 17, op := _, type := _, pos := _, after := _, guard := _ }) (v := ?_) rfl (by kernel_rfl) (by kernel_rfl) (by kernel_rfl) (fun _ _ _ h => h) (Or.inl ⟨by rfl, ?_⟩) (by assumption) ?_
      rotate_left
      · intro w hSw; (try dsimp only at hSw); go_simp; (try with_reducible rfl)
      try simp only [Act.put, List.setIfInBounds_toArray, List.set_cons_zero, List.set_cons_succ]
      refine wpAnyH_ready (rs := [2]) (by kernel_rfl) (by simp) ?_
      refine AllReadyH.cons (o := { dst := some 18, op := _, type := _, pos := _, after := _, guard := _ }) rfl (fun K hK => ?_) ?_
      rotate_left
      · exact AllReadyH.nil
      go_simp
      refine (HLab.out _).mono ?_; rintro e w2 ⟨rfl, hb2⟩; have hSn := hHeld.step hb2; clear hHeld hb2; try go_simp
      refine hK.out _ _ ?_ (fun hHeld => ?_)
      · first | exact HSS.out | exact hSn | exact HS0.out
      clear hK K
      try simp only [Act.put, List.setIfInBounds_toArray, List.set_cons_zero, List.set_cons_succ]
      refine wpAnyH_take (i := 3) (oi := { dst := some 19, op := _, type := _, pos := _, after := _, guard := _ }) (v := ?_) rfl (by kernel_rfl) (by kernel_rfl) (by kernel_rfl) (fun _ _ _ h => h) (Or.inl ⟨by rfl, ?_⟩) (by assumption) ?_
      rotate_left
      · intro w hSw; (try dsimp only at hSw); go_simp; (try with_reducible rfl)
      try simp only [Act.put, List.setIfInBounds_toArray, List.set_cons_zero, List.set_cons_succ]
      refine wpAnyH_take (i := 4) (oi := { dst := some 20, op := _, type := _, pos := _, after := _, guard := _ }) (v := ?_) rfl (by kernel_rfl) (by kernel_rfl) (by kernel_rfl) (fun _ _ _ h => h) (Or.inl ⟨by rfl, ?_⟩) (by assumption) ?_
      rotate_left
      · intro w hSw; (try dsimp only at hSw); go_simp; (try with_reducible rfl)
      try simp only [Act.put, List.setIfInBounds_toArray, List.set_cons_zero, List.set_cons_succ]
      refine wpAnyH_take (i := 5) (oi := { dst := some 21, op := _, type := _, pos := _, after := _, guard := _ }) (v := ?_) rfl (by kernel_rfl) (by kernel_rfl) (by kernel_rfl) (fun _ _ _ h => h) (Or.inl ⟨by rfl, ?_⟩) (by assumption) ?_
      rotate_left
      · intro w hSw; (try dsimp only at hSw); go_simp; (try with_reducible rfl)
      try simp only [Act.put, List.setIfInBounds_toArray, List.set_cons_zero, List.set_cons_succ]
      refine wpAnyH_ready (rs := [6]) (by kernel_rfl) (by simp) ?_
      refine AllReadyH.cons (o := { dst := some 22, op := _, type := _, pos := _, after := _, guard := _ }) rfl (fun K hK => ?_) ?_
      rotate_left
      · exact AllReadyH.nil
      go_simp
      refine (HLba.out _).mono ?_; rintro e w2 ⟨rfl, hb2⟩; have hSn := hHeld.step hb2; clear hHeld hb2; try go_simp
      refine hK.out _ _ ?_ (fun hHeld => ?_)
      · first | exact HSS.out | exact hSn | exact HS0.out
      clear hK K
      try simp only [Act.put, List.setIfInBounds_toArray, List.set_cons_zero, List.set_cons_succ]
      refine wpAnyH_take (i := 7) (oi := { dst := some 23, op := _, type := _, pos := _, after := _, guard := _ }) (v := ?_) rfl (by kernel_rfl) (by kernel_rfl) (by kernel_rfl) (fun _ _ _ h => h) (Or.inl ⟨by rfl, ?_⟩) (by assumption) ?_
      rotate_left
      · intro w hSw; (try dsimp only at hSw); go_simp; (try with_reducible rfl)
      try simp only [Act.put, List.setIfInBounds_toArray, List.set_cons_zero, List.set_cons_succ]
      refine wpAnyH_take (i := 8) (oi := { dst := some 24, op := _, type := _, pos := _, after := _, guard := _ }) (v := ?_) rfl (by kernel_rfl) (by kernel_rfl) (by kernel_rfl) (fun _ _ _ h => h) (Or.inl ⟨by rfl, ?_⟩) (by assumption) ?_
      rotate_left
      · intro w hSw; (try dsimp only at hSw); go_simp; (try with_reducible rfl)
      try simp only [Act.put, List.setIfInBounds_toArray, List.set_cons_zero, List.set_cons_succ]
      refine wpAnyH_take (i := 9) (oi := { dst := some 25, op := _, type := _, pos := _, after := _, guard := _ }) (v := ?_) rfl (by kernel_rfl) (by kernel_rfl) (by kernel_rfl) (fun _ _ _ h => h) (Or.inl ⟨by rfl, ?_⟩) (by assumption) ?_
      rotate_left
      · intro w hSw; (try dsimp only at hSw); go_simp; (try with_reducible rfl)
      try simp only [Act.put, List.setIfInBounds_toArray, List.set_cons_zero, List.set_cons_succ]
      refine wpAnyH_take (i := 10) (oi := { dst := some 26, op := _, type := _, pos := _, after := _, guard := _ }) (v := ?_) rfl (by kernel_rfl) (by kernel_rfl) (by kernel_rfl) (fun _ _ _ h => h) (Or.inl ⟨by rfl, ?_⟩) (by assumption) ?_
      rotate_left
      · intro w hSw; (try dsimp only at hSw); go_simp; (try with_reducible rfl)
      try simp only [Act.put, List.setIfInBounds_toArray, List.set_cons_zero, List.set_cons_succ]
      refine wpAnyH_take (i := 11) (oi := { dst := some 27, op := _, type := _, pos := _, after := _, guard := _ }) (v := ?_) rfl (by kernel_rfl) (by kernel_rfl) (by kernel_rfl) (fun _ _ _ h => h) (Or.inl ⟨by rfl, ?_⟩) (by assumption) ?_
      rotate_left
      · intro w hSw; (try dsimp only at hSw); go_simp; (try with_reducible rfl)
      try simp only [Act.put, List.setIfInBounds_toArray, List.set_cons_zero, List.set_cons_succ]
      refine wpAnyH_take (i := 12) (oi := { dst := some 28, op := _, type := _, pos := _, after := _, guard := _ }) (v := ?_) rfl (by kernel_rfl) (by kernel_rfl) (by kernel_rfl) (fun _ _ _ h => h) (Or.inl ⟨by rfl, ?_⟩) (by assumption) ?_
      rotate_left
      · intro w hSw; (try dsimp only at hSw); go_simp; (try with_reducible rfl)
      try simp only [Act.put, List.setIfInBounds_toArray, List.set_cons_zero, List.set_cons_succ]
      refine wpAnyH_take (i := 13) (oi := { dst := some 29, op := _, type := _, pos := _, after := _, guard := _ }) (v := ?_) rfl (by kernel_rfl) (by kernel_rfl) (by kernel_rfl) (fun _ _ _ h => h) (Or.inl ⟨by rfl, ?_⟩) (by assumption) ?_
      rotate_left
      · intro w hSw; (try dsimp only at hSw); go_simp; (try with_reducible rfl)
      try simp only [Act.put, List.setIfInBounds_toArray, List.set_cons_zero, List.set_cons_succ]
      refine wpAnyH_ready (rs := [14]) (by kernel_rfl) (by simp) ?_
      refine AllReadyH.cons (o := { dst := some 30, op := _, type := _, pos := _, after := _, guard := _ }) rfl (fun K hK => ?_) ?_
      rotate_left
      · exact AllReadyH.nil
      go_simp
      refine (HLab.out _).mono ?_; rintro e w2 ⟨rfl, hb2⟩; have hSn := hHeld.step hb2; clear hHeld hb2; try go_simp
      refine hK.out _ _ ?_ (fun hHeld => ?_)
      · first | exact HSS.out | exact hSn | exact HS0.out
      clear hK K
      try simp only [Act.put, List.setIfInBounds_toArray, List.set_cons_zero, List.set_cons_succ]
      refine wpAnyH_take (i := 15) (oi := { dst := some 31, op := _, type := _, pos := _, after := _, guard := _ }) (v := ?_) rfl (by kernel_rfl) (by kernel_rfl) (by kernel_rfl) (fun _ _ _ h => h) (Or.inl ⟨by rfl, ?_⟩) (by assumption) ?_
      rotate_left
      · intro w hSw; (try dsimp only at hSw); go_simp; (try with_reducible rfl)
      try simp only [Act.put, List.setIfInBounds_toArray, List.set_cons_zero, List.set_cons_succ]
      refine wpAnyH_take (i := 16) (oi := { dst := some 32, op := _, type := _, pos := _, after := _, guard := _ }) (v := undef) rfl (by kernel_rfl) (by kernel_rfl) (by kernel_rfl) (fun _ _ _ h => h) (Or.inr ⟨by rfl, rfl⟩) (by assumption) ?_
      try simp only [Act.put, List.setIfInBounds_toArray, List.set_cons_zero, List.set_cons_succ]
      refine wpAnyH_take (i := 17) (oi := { dst := some 33, op := _, type := _, pos := _, after := _, guard := _ }) (v := undef) rfl (by kernel_rfl) (by kernel_rfl) (by kernel_rfl) (fun _ _ _ h => h) (Or.inr ⟨by rfl, rfl⟩) (by assumption) ?_
      try simp only [Act.put, List.setIfInBounds_toArray, List.set_cons_zero, List.set_cons_succ]
      refine wpAnyH_take (i := 18) (oi := { dst := some 34, op := _, type := _, pos := _, after := _, guard := _ }) (v := undef) rfl (by kernel_rfl) (by kernel_rfl) (by kernel_rfl) (fun _ _ _ h => h) (Or.inr ⟨by rfl, rfl⟩) (by assumption) ?_
      try simp only [Act.put, List.setIfInBounds_toArray, List.set_cons_zero, List.set_cons_succ]
      refine wpAnyH_take (i := 19) (oi := { dst := some 35, op := _, type := _, pos := _, after := _, guard := _ }) (v := ?_) rfl (by kernel_rfl) (by kernel_rfl) (by kernel_rfl) (fun _ _ _ h => h) (Or.inl ⟨by rfl, ?_⟩) (by assumption) ?_
      rotate_left
      · intro w hSw; (try dsimp only at hSw); go_simp; (try with_reducible rfl)
      try simp only [Act.put, List.setIfInBounds_toArray, List.set_cons_zero, List.set_cons_succ]
      refine wpAnyH_take (i := 20) (oi := { dst := some 36, op := _, type := _, pos := _, after := _, guard := _ }) (v := ?_) rfl (by kernel_rfl) (by kernel_rfl) (by kernel_rfl) (fun _ _ _ h => h) (Or.inl ⟨by rfl, ?_⟩) (by assumption) ?_
      rotate_left
      · intro w hSw; (try dsimp only at hSw); go_simp; (try with_reducible rfl)
      try simp only [Act.put, List.setIfInBounds_toArray, List.set_cons_zero, List.set_cons_succ]
      refine wpAnyH_take (i := 21) (oi := { dst := some 37, op := _, type := _, pos := _, after := _, guard := _ }) (v := ?_) rfl (by kernel_rfl) (by kernel_rfl) (by kernel_rfl) (fun _ _ _ h => h) (Or.inl ⟨by rfl, ?_⟩) (by assumption) ?_
      rotate_left
      · intro w hSw; (try dsimp only at hSw); go_simp; (try with_reducible rfl)
      try simp only [Act.put, List.setIfInBounds_toArray, List.set_cons_zero, List.set_cons_succ]
      refine wpAnyH_done (by kernel_rfl) ?_ _
      clear HW
      go_wp2_with fail
      go_meet
      case rel => exact ⟨rfl, hHeld⟩
    · skip
      refine wp_region_held_drew (S := (fun we => Held3 w.heap.size (w.heap.size + 1) (w.heap.size + 1 + 1) ⟨ak, ap, as_⟩ ⟨bk, bp, bs⟩ ⟨ck, cp, cs⟩ w we)) (by kernel_rfl) ?_ (fun hHeld => ?_)
      · first | exact HSS.out | exact hSn | exact HS0.out
      refine wpAnyH_take (i := 0) (oi := { dst := some 16, op := _, type := _, pos := _, after := _, guard := _ }) (v := ?_) rfl (by kernel_rfl) (by kernel_rfl) (by kernel_rfl) (fun _ _ _ h => h) (Or.inl ⟨by rfl, ?_⟩) (by assumption) ?_
      rotate_left
      · intro w hSw; (try dsimp only at hSw); go_simp; (try with_reducible rfl)
      try simp only [Act.put, List.setIfInBounds_toArray, List.set_cons_zero, List.set_cons_succ]
      refine wpAnyH_take (i := 1) (oi := { dst := some 17, op := _, type := _, pos := _, after := _, guard := _ }) (v := ?_) rfl (by kernel_rfl) (by kernel_rfl) (by kernel_rfl) (fun _ _ _ h => h) (Or.inl ⟨by rfl, ?_⟩) (by assumption) ?_
      rotate_left
      · intro w hSw; (try dsimp only at hSw); go_simp; (try with_reducible rfl)
      try simp only [Act.put, List.setIfInBounds_toArray, List.set_cons_zero, List.set_cons_succ]
      refine wpAnyH_ready (rs := [2]) (by kernel_rfl) (by simp) ?_
      refine AllReadyH.cons (o := { dst := some 18, op := _, type := _, pos := _, after := _, guard := _ }) rfl (fun K hK => ?_) ?_
      rotate_left
      · exact AllReadyH.nil
      go_simp
      refine (HLab.out _).mono ?_; rintro e w2 ⟨rfl, hb2⟩; have hSn := hHeld.step hb2; clear hHeld hb2; try go_simp
      refine hK.out _ _ ?_ (fun hHeld => ?_)
      · first | exact HSS.out | exact hSn | exact HS0.out
      clear hK K
      try simp only [Act.put, List.setIfInBounds_toArray, List.set_cons_zero, List.set_cons_succ]
      refine wpAnyH_take (i := 3) (oi := { dst := some 19, op := _, type := _, pos := _, after := _, guard := _ }) (v := ?_) rfl (by kernel_rfl) (by kernel_rfl) (by kernel_rfl) (fun _ _ _ h => h) (Or.inl ⟨by rfl, ?_⟩) (by assumption) ?_
      rotate_left
      · intro w hSw; (try dsimp only at hSw); go_simp; (try with_reducible rfl)
      try simp only [Act.put, List.setIfInBounds_toArray, List.set_cons_zero, List.set_cons_succ]
      refine wpAnyH_take (i := 4) (oi := { dst := some 20, op := _, type := _, pos := _, after := _, guard := _ }) (v := undef) rfl (by kernel_rfl) (by kernel_rfl) (by kernel_rfl) (fun _ _ _ h => h) (Or.inr ⟨by rfl, rfl⟩) (by assumption) ?_
      try simp only [Act.put, List.setIfInBounds_toArray, List.set_cons_zero, List.set_cons_succ]
      refine wpAnyH_take (i := 5) (oi := { dst := some 21, op := _, type := _, pos := _, after := _, guard := _ }) (v := undef) rfl (by kernel_rfl) (by kernel_rfl) (by kernel_rfl) (fun _ _ _ h => h) (Or.inr ⟨by rfl, rfl⟩) (by assumption) ?_
      try simp only [Act.put, List.setIfInBounds_toArray, List.set_cons_zero, List.set_cons_succ]
      refine wpAnyH_take (i := 6) (oi := { dst := some 22, op := _, type := _, pos := _, after := _, guard := _ }) (v := undef) rfl (by kernel_rfl) (by kernel_rfl) (by kernel_rfl) (fun _ _ _ h => h) (Or.inr ⟨by rfl, rfl⟩) (by assumption) ?_
      try simp only [Act.put, List.setIfInBounds_toArray, List.set_cons_zero, List.set_cons_succ]
      refine wpAnyH_take (i := 7) (oi := { dst := some 23, op := _, type := _, pos := _, after := _, guard := _ }) (v := ?_) rfl (by kernel_rfl) (by kernel_rfl) (by kernel_rfl) (fun _ _ _ h => h) (Or.inl ⟨by rfl, ?_⟩) (by assumption) ?_
      rotate_left
      · intro w hSw; (try dsimp only at hSw); go_simp; (try with_reducible rfl)
      try simp only [Act.put, List.setIfInBounds_toArray, List.set_cons_zero, List.set_cons_succ]
      refine wpAnyH_take (i := 8) (oi := { dst := some 24, op := _, type := _, pos := _, after := _, guard := _ }) (v := ?_) rfl (by kernel_rfl) (by kernel_rfl) (by kernel_rfl) (fun _ _ _ h => h) (Or.inl ⟨by rfl, ?_⟩) (by assumption) ?_
      rotate_left
      · intro w hSw; (try dsimp only at hSw); go_simp; (try with_reducible rfl)
      try simp only [Act.put, List.setIfInBounds_toArray, List.set_cons_zero, List.set_cons_succ]
      refine wpAnyH_take (i := 9) (oi := { dst := some 25, op := _, type := _, pos := _, after := _, guard := _ }) (v := ?_) rfl (by kernel_rfl) (by kernel_rfl) (by kernel_rfl) (fun _ _ _ h => h) (Or.inl ⟨by rfl, ?_⟩) (by assumption) ?_
      rotate_left
      · intro w hSw; (try dsimp only at hSw); go_simp; (try with_reducible rfl)
      try simp only [Act.put, List.setIfInBounds_toArray, List.set_cons_zero, List.set_cons_succ]
      refine wpAnyH_take (i := 10) (oi := { dst := some 26, op := _, type := _, pos := _, after := _, guard := _ }) (v := ?_) rfl (by kernel_rfl) (by kernel_rfl) (by kernel_rfl) (fun _ _ _ h => h) (Or.inl ⟨by rfl, ?_⟩) (by assumption) ?_
      rotate_left
      · intro w hSw; (try dsimp only at hSw); go_simp; (try with_reducible rfl)
      try simp only [Act.put, List.setIfInBounds_toArray, List.set_cons_zero, List.set_cons_succ]
      refine wpAnyH_take (i := 11) (oi := { dst := some 27, op := _, type := _, pos := _, after := _, guard := _ }) (v := ?_) rfl (by kernel_rfl) (by kernel_rfl) (by kernel_rfl) (fun _ _ _ h => h) (Or.inl ⟨by rfl, ?_⟩) (by assumption) ?_
      rotate_left
      · intro w hSw; (try dsimp only at hSw); go_simp; (try with_reducible rfl)
      try simp only [Act.put, List.setIfInBounds_toArray, List.set_cons_zero, List.set_cons_succ]
      refine wpAnyH_take (i := 12) (oi := { dst := some 28, op := _, type := _, pos := _, after := _, guard := _ }) (v := ?_) rfl (by kernel_rfl) (by kernel_rfl) (by kernel_rfl) (fun _ _ _ h => h) (Or.inl ⟨by rfl, ?_⟩) (by assumption) ?_
      rotate_left
      · intro w hSw; (try dsimp only at hSw); go_simp; (try with_reducible rfl)
      try simp only [Act.put, List.setIfInBounds_toArray, List.set_cons_zero, List.set_cons_succ]
      refine wpAnyH_take (i := 13) (oi := { dst := some 29, op := _, type := _, pos := _, after := _, guard := _ }) (v := ?_) rfl (by kernel_rfl) (by kernel_rfl) (by kernel_rfl) (fun _ _ _ h => h) (Or.inl ⟨by rfl, ?_⟩) (by assumption) ?_
      rotate_left
      · intro w hSw; (try dsimp only at hSw); go_simp; (try with_reducible rfl)
      try simp only [Act.put, List.setIfInBounds_toArray, List.set_cons_zero, List.set_cons_succ]
      refine wpAnyH_ready (rs := [14]) (by kernel_rfl) (by simp) ?_
      refine AllReadyH.cons (o := { dst := some 30, op := _, type := _, pos := _, after := _, guard := _ }) rfl (fun K hK => ?_) ?_
      rotate_left
      · exact AllReadyH.nil
      go_simp
      refine (HLab.out _).mono ?_; rintro e w2 ⟨rfl, hb2⟩; have hSn := hHeld.step hb2; clear hHeld hb2; try go_simp
      refine hK.out _ _ ?_ (fun hHeld => ?_)
      · first | exact HSS.out | exact hSn | exact HS0.out
      clear hK K
      try simp only [Act.put, List.setIfInBounds_toArray, List.set_cons_zero, List.set_cons_succ]
      refine wpAnyH_take (i := 15) (oi := { dst := some 31, op := _, type := _, pos := _, after := _, guard := _ }) (v := ?_) rfl (by kernel_rfl) (by kernel_rfl) (by kernel_rfl) (fun _ _ _ h => h) (Or.inl ⟨by rfl, ?_⟩) (by assumption) ?_
      rotate_left
      · intro w hSw; (try dsimp only at hSw); go_simp; (try with_reducible rfl)
      try simp only [Act.put, List.setIfInBounds_toArray, List.set_cons_zero, List.set_cons_succ]
      refine wpAnyH_take (i := 16) (oi := { dst := some 32, op := _, type := _, pos := _, after := _, guard := _ }) (v := ?_) rfl (by kernel_rfl) (by kernel_rfl) (by kernel_rfl) (fun _ _ _ h => h) (Or.inl ⟨by rfl, ?_⟩) (by assumption) ?_
      rotate_left
      · intro w hSw; (try dsimp only at hSw); go_simp; (try with_reducible rfl)
      try simp only [Act.put, List.setIfInBounds_toArray, List.set_cons_zero, List.set_cons_succ]
      refine wpAnyH_take (i := 17) (oi := { dst := some 33, op := _, type := _, pos := _, after := _, guard := _ }) (v := ?_) rfl (by kernel_rfl) (by kernel_rfl) (by kernel_rfl) (fun _ _ _ h => h) (Or.inl ⟨by rfl, ?_⟩) (by assumption) ?_
      rotate_left
      · intro w hSw; (try dsimp only at hSw); go_simp; (try with_reducible rfl)
      try simp only [Act.put, List.setIfInBounds_toArray, List.set_cons_zero, List.set_cons_succ]
      refine wpAnyH_ready (rs := [18]) (by kernel_rfl) (by simp) ?_
      refine AllReadyH.cons (o := { dst := some 34, op := _, type := _, pos := _, after := _, guard := _ }) rfl (fun K hK => ?_) ?_
      rotate_left
      · exact AllReadyH.nil
      go_simp
      refine (HLba.out _).mono ?_; rintro e w2 ⟨rfl, hb2⟩; have hSn := hHeld.step hb2; clear hHeld hb2; try go_simp
      refine hK.out _ _ ?_ (fun hHeld => ?_)
      · first | exact HSS.out | exact hSn | exact HS0.out
      clear hK K
      try simp only [Act.put, List.setIfInBounds_toArray, List.set_cons_zero, List.set_cons_succ]
      refine wpAnyH_take (i := 19) (oi := { dst := some 35, op := _, type := _, pos := _, after := _, guard := _ }) (v := ?_) rfl (by kernel_rfl) (by kernel_rfl) (by kernel_rfl) (fun _ _ _ h => h) (Or.inl ⟨by rfl, ?_⟩) (by assumption) ?_
      rotate_left
      · intro w hSw; (try dsimp only at hSw); go_simp; (try with_reducible rfl)
      try simp only [Act.put, List.setIfInBounds_toArray, List.set_cons_zero, List.set_cons_succ]
      refine wpAnyH_take (i := 20) (oi := { dst := some 36, op := _, type := _, pos := _, after := _, guard := _ }) (v := ?_) rfl (by kernel_rfl) (by kernel_rfl) (by kernel_rfl) (fun _ _ _ h => h) (Or.inl ⟨by rfl, ?_⟩) (by assumption) ?_
      rotate_left
      · intro w hSw; (try dsimp only at hSw); go_simp; (try with_reducible rfl)
      try simp only [Act.put, List.setIfInBounds_toArray, List.set_cons_zero, List.set_cons_succ]
      refine wpAnyH_take (i := 21) (oi := { dst := some 37, op := _, type := _, pos := _, after := _, guard := _ }) (v := ?_) rfl (by kernel_rfl) (by kernel_rfl) (by kernel_rfl) (fun _ _ _ h => h) (Or.inl ⟨by rfl, ?_⟩) (by assumption) ?_
      rotate_left
      · intro w hSw; (try dsimp only at hSw); go_simp; (try with_reducible rfl)
      try simp only [Act.put, List.setIfInBounds_toArray, List.set_cons_zero, List.set_cons_succ]
      refine wpAnyH_done (by kernel_rfl) ?_ _
      clear HW
      go_wp2_with fail
      go_meet
      case rel => exact ⟨rfl, hHeld⟩
    · skip
      refine wp_region_held_drew (S := (fun we => Held3 w.heap.size (w.heap.size + 1) (w.heap.size + 1 + 1) ⟨ak, ap, as_⟩ ⟨bk, bp, bs⟩ ⟨ck, cp, cs⟩ w we)) (by kernel_rfl) ?_ (fun hHeld => ?_)
      · first | exact HSS.out | exact hSn | exact HS0.out
      refine wpAnyH_take (i := 0) (oi := { dst := some 16, op := _, type := _, pos := _, after := _, guard := _ }) (v := ?_) rfl (by kernel_rfl) (by kernel_rfl) (by kernel_rfl) (fun _ _ _ h => h) (Or.inl ⟨by rfl, ?_⟩) (by assumption) ?_
      rotate_left
      · intro w hSw; (try dsimp only at hSw); go_simp; (try with_reducible rfl)
      try simp only [Act.put, List.setIfInBounds_toArray, List.set_cons_zero, List.set_cons_succ]
      refine wpAnyH_take (i := 1) (oi := { dst := some 17, op := _, type := _, pos := _, after := _, guard := _ }) (v := ?_) rfl (by kernel_rfl) (by kernel_rfl) (by kernel_rfl) (fun _ _ _ h => h) (Or.inl ⟨by rfl, ?_⟩) (by assumption) ?_
      rotate_left
      · intro w hSw; (try dsimp only at hSw); go_simp; (try with_reducible rfl)
      try simp only [Act.put, List.setIfInBounds_toArray, List.set_cons_zero, List.set_cons_succ]
      refine wpAnyH_ready (rs := [2]) (by kernel_rfl) (by simp) ?_
      refine AllReadyH.cons (o := { dst := some 18, op := _, type := _, pos := _, after := _, guard := _ }) rfl (fun K hK => ?_) ?_
      rotate_left
      · exact AllReadyH.nil
      go_simp
      refine (HLab.out _).mono ?_; rintro e w2 ⟨rfl, hb2⟩; have hSn := hHeld.step hb2; clear hHeld hb2; try go_simp
      refine hK.out _ _ ?_ (fun hHeld => ?_)
      · first | exact HSS.out | exact hSn | exact HS0.out
      clear hK K
      try simp only [Act.put, List.setIfInBounds_toArray, List.set_cons_zero, List.set_cons_succ]
      refine wpAnyH_take (i := 3) (oi := { dst := some 19, op := _, type := _, pos := _, after := _, guard := _ }) (v := ?_) rfl (by kernel_rfl) (by kernel_rfl) (by kernel_rfl) (fun _ _ _ h => h) (Or.inl ⟨by rfl, ?_⟩) (by assumption) ?_
      rotate_left
      · intro w hSw; (try dsimp only at hSw); go_simp; (try with_reducible rfl)
      try simp only [Act.put, List.setIfInBounds_toArray, List.set_cons_zero, List.set_cons_succ]
      refine wpAnyH_take (i := 4) (oi := { dst := some 20, op := _, type := _, pos := _, after := _, guard := _ }) (v := undef) rfl (by kernel_rfl) (by kernel_rfl) (by kernel_rfl) (fun _ _ _ h => h) (Or.inr ⟨by rfl, rfl⟩) (by assumption) ?_
      try simp only [Act.put, List.setIfInBounds_toArray, List.set_cons_zero, List.set_cons_succ]
      refine wpAnyH_take (i := 5) (oi := { dst := some 21, op := _, type := _, pos := _, after := _, guard := _ }) (v := undef) rfl (by kernel_rfl) (by kernel_rfl) (by kernel_rfl) (fun _ _ _ h => h) (Or.inr ⟨by rfl, rfl⟩) (by assumption) ?_
      try simp only [Act.put, List.setIfInBounds_toArray, List.set_cons_zero, List.set_cons_succ]
      refine wpAnyH_take (i := 6) (oi := { dst := some 22, op := _, type := _, pos := _, after := _, guard := _ }) (v := undef) rfl (by kernel_rfl) (by kernel_rfl) (by kernel_rfl) (fun _ _ _ h => h) (Or.inr ⟨by rfl, rfl⟩) (by assumption) ?_
      try simp only [Act.put, List.setIfInBounds_toArray, List.set_cons_zero, List.set_cons_succ]
      refine wpAnyH_take (i := 7) (oi := { dst := some 23, op := _, type := _, pos := _, after := _, guard := _ }) (v := ?_) rfl (by kernel_rfl) (by kernel_rfl) (by kernel_rfl) (fun _ _ _ h => h) (Or.inl ⟨by rfl, ?_⟩) (by assumption) ?_
      rotate_left
      · intro w hSw; (try dsimp only at hSw); go_simp; (try with_reducible rfl)
      try simp only [Act.put, List.setIfInBounds_toArray, List.set_cons_zero, List.set_cons_succ]
      refine wpAnyH_take (i := 8) (oi := { dst := some 24, op := _, type := _, pos := _, after := _, guard := _ }) (v := ?_) rfl (by kernel_rfl) (by kernel_rfl) (by kernel_rfl) (fun _ _ _ h => h) (Or.inl ⟨by rfl, ?_⟩) (by assumption) ?_
      rotate_left
      · intro w hSw; (try dsimp only at hSw); go_simp; (try with_reducible rfl)
      try simp only [Act.put, List.setIfInBounds_toArray, List.set_cons_zero, List.set_cons_succ]
      refine wpAnyH_take (i := 9) (oi := { dst := some 25, op := _, type := _, pos := _, after := _, guard := _ }) (v := ?_) rfl (by kernel_rfl) (by kernel_rfl) (by kernel_rfl) (fun _ _ _ h => h) (Or.inl ⟨by rfl, ?_⟩) (by assumption) ?_
      rotate_left
      · intro w hSw; (try dsimp only at hSw); go_simp; (try with_reducible rfl)
      try simp only [Act.put, List.setIfInBounds_toArray, List.set_cons_zero, List.set_cons_succ]
      refine wpAnyH_take (i := 10) (oi := { dst := some 26, op := _, type := _, pos := _, after := _, guard := _ }) (v := ?_) rfl (by kernel_rfl) (by kernel_rfl) (by kernel_rfl) (fun _ _ _ h => h) (Or.inl ⟨by rfl, ?_⟩) (by assumption) ?_
      rotate_left
      · intro w hSw; (try dsimp only at hSw); go_simp; (try with_reducible rfl)
      try simp only [Act.put, List.setIfInBounds_toArray, List.set_cons_zero, List.set_cons_succ]
      refine wpAnyH_take (i := 11) (oi := { dst := some 27, op := _, type := _, pos := _, after := _, guard := _ }) (v := ?_) rfl (by kernel_rfl) (by kernel_rfl) (by kernel_rfl) (fun _ _ _ h => h) (Or.inl ⟨by rfl, ?_⟩) (by assumption) ?_
      rotate_left
      · intro w hSw; (try dsimp only at hSw); go_simp; (try with_reducible rfl)
      try simp only [Act.put, List.setIfInBounds_toArray, List.set_cons_zero, List.set_cons_succ]
      refine wpAnyH_take (i := 12) (oi := { dst := some 28, op := _, type := _, pos := _, after := _, guard := _ }) (v := ?_) rfl (by kernel_rfl) (by kernel_rfl) (by kernel_rfl) (fun _ _ _ h => h) (Or.inl ⟨by rfl, ?_⟩) (by assumption) ?_
      rotate_left
      · intro w hSw; (try dsimp only at hSw); go_simp; (try with_reducible rfl)
      try simp only [Act.put, List.setIfInBounds_toArray, List.set_cons_zero, List.set_cons_succ]
      refine wpAnyH_take (i := 13) (oi := { dst := some 29, op := _, type := _, pos := _, after := _, guard := _ }) (v := ?_) rfl (by kernel_rfl) (by kernel_rfl) (by kernel_rfl) (fun _ _ _ h => h) (Or.inl ⟨by rfl, ?_⟩) (by assumption) ?_
      rotate_left
      · intro w hSw; (try dsimp only at hSw); go_simp; (try with_reducible rfl)
      try simp only [Act.put, List.setIfInBounds_toArray, List.set_cons_zero, List.set_cons_succ]
      refine wpAnyH_ready (rs := [14]) (by kernel_rfl) (by simp) ?_
      refine AllReadyH.cons (o := { dst := some 30, op := _, type := _, pos := _, after := _, guard := _ }) rfl (fun K hK => ?_) ?_
      rotate_left
      · exact AllReadyH.nil
      go_simp
      refine (HLab.out _).mono ?_; rintro e w2 ⟨rfl, hb2⟩; have hSn := hHeld.step hb2; clear hHeld hb2; try go_simp
      refine hK.out _ _ ?_ (fun hHeld => ?_)
      · first | exact HSS.out | exact hSn | exact HS0.out
      clear hK K
      try simp only [Act.put, List.setIfInBounds_toArray, List.set_cons_zero, List.set_cons_succ]
      refine wpAnyH_take (i := 15) (oi := { dst := some 31, op := _, type := _, pos := _, after := _, guard := _ }) (v := ?_) rfl (by kernel_rfl) (by kernel_rfl) (by kernel_rfl) (fun _ _ _ h => h) (Or.inl ⟨by rfl, ?_⟩) (by assumption) ?_
      rotate_left
      · intro w hSw; (try dsimp only at hSw); go_simp; (try with_reducible rfl)
      try simp only [Act.put, List.setIfInBounds_toArray, List.set_cons_zero, List.set_cons_succ]
      refine wpAnyH_take (i := 16) (oi := { dst := some 32, op := _, type := _, pos := _, after := _, guard := _ }) (v := ?_) rfl (by kernel_rfl) (by kernel_rfl) (by kernel_rfl) (fun _ _ _ h => h) (Or.inl ⟨by rfl, ?_⟩) (by assumption) ?_
      rotate_left
      · intro w hSw; (try dsimp only at hSw); go_simp; (try with_reducible rfl)
      try simp only [Act.put, List.setIfInBounds_toArray, List.set_cons_zero, List.set_cons_succ]
      refine wpAnyH_take (i := 17) (oi := { dst := some 33, op := _, type := _, pos := _, after := _, guard := _ }) (v := ?_) rfl (by kernel_rfl) (by kernel_rfl) (by kernel_rfl) (fun _ _ _ h => h) (Or.inl ⟨by rfl, ?_⟩) (by assumption) ?_
      rotate_left
      · intro w hSw; (try dsimp only at hSw); go_simp; (try with_reducible rfl)
      try simp only [Act.put, List.setIfInBounds_toArray, List.set_cons_zero, List.set_cons_succ]
      refine wpAnyH_ready (rs := [18]) (by kernel_rfl) (by simp) ?_
      refine AllReadyH.cons (o := { dst := some 34, op := _, type := _, pos := _, after := _, guard := _ }) rfl (fun K hK => ?_) ?_
      rotate_left
      · exact AllReadyH.nil
      go_simp
      refine (HLba.out _).mono ?_; rintro e w2 ⟨rfl, hb2⟩; have hSn := hHeld.step hb2; clear hHeld hb2; try go_simp
      refine hK.out _ _ ?_ (fun hHeld => ?_)
      · first | exact HSS.out | exact hSn | exact HS0.out
      clear hK K
      try simp only [Act.put, List.setIfInBounds_toArray, List.set_cons_zero, List.set_cons_succ]
      refine wpAnyH_take (i := 19) (oi := { dst := some 35, op := _, type := _, pos := _, after := _, guard := _ }) (v := ?_) rfl (by kernel_rfl) (by kernel_rfl) (by kernel_rfl) (fun _ _ _ h => h) (Or.inl ⟨by rfl, ?_⟩) (by assumption) ?_
      rotate_left
      · intro w hSw; (try dsimp only at hSw); go_simp; (try with_reducible rfl)
      try simp only [Act.put, List.setIfInBounds_toArray, List.set_cons_zero, List.set_cons_succ]
      refine wpAnyH_take (i := 20) (oi := { dst := some 36, op := _, type := _, pos := _, after := _, guard := _ }) (v := ?_) rfl (by kernel_rfl) (by kernel_rfl) (by kernel_rfl) (fun _ _ _ h => h) (Or.inl ⟨by rfl, ?_⟩) (by assumption) ?_
      rotate_left
      · intro w hSw; (try dsimp only at hSw); go_simp; (try with_reducible rfl)
      try simp only [Act.put, List.setIfInBounds_toArray, List.set_cons_zero, List.set_cons_succ]
      refine wpAnyH_take (i := 21) (oi := { dst := some 37, op := _, type := _, pos := _, after := _, guard := _ }) (v := ?_) rfl (by kernel_rfl) (by kernel_rfl) (by kernel_rfl) (fun _ _ _ h => h) (Or.inl ⟨by rfl, ?_⟩) (by assumption) ?_
      rotate_left
      · intro w hSw; (try dsimp only at hSw); go_simp; (try with_reducible rfl)
      try simp only [Act.put, List.setIfInBounds_toArray, List.set_cons_zero, List.set_cons_succ]
      refine wpAnyH_done (by kernel_rfl) ?_ _
      clear HW
      go_wp2_with fail
      go_meet
      case rel => exact ⟨rfl, hHeld⟩
  case rest =>
    obtain ⟨rfl, hHeld⟩ := hcut
    have HS0 := Lib.hid hHeld
    clear hHeld H0 HLba HF hqab
    go_upto_region 3 with (fail)
    go_cut [51] (fun s we => s = .bool false ∧ Held3 w.heap.size (w.heap.size + 1) (w.heap.size + 1 + 1) ⟨ak, ap, as_⟩ ⟨bk, bp, bs⟩ ⟨ck, cp, cs⟩ w we)
    case first =>
      generalize Nd.lessE ⟨ak, ap, as_⟩ ⟨bk, bp, bs⟩ = la at HLab HTR
      generalize Nd.lessE ⟨bk, bp, bs⟩ ⟨ck, cp, cs⟩ = lb at HLbc HTR
      generalize Nd.lessE ⟨ak, ap, as_⟩ ⟨ck, cp, cs⟩ = lc at HLac HTR
      obtain ⟨⟨p0, p1, p2⟩, ⟨q0, q1, q2⟩, ⟨r0, r1, r2⟩, -⟩ := HS0.out
      cases la with
      | false =>
        go_wp2_with (go_at_call 65; refine (HLab.out _).mono ?_; rintro e w2 ⟨rfl, hb2⟩)
        go_meet
        case rel => exact ⟨rfl, HS0.out.step hb2⟩
      | true =>
        cases lb with
        | false =>
          go_wp2_with (first
            | (go_at_call 65; ((with_reducible refine (HLab.out _).mono ?_); rintro e w2 ⟨rfl, hb2⟩; have HS2 := Lib.hid (HS0.out.step hb2); clear hb2; obtain ⟨⟨p0, p1, p2⟩, ⟨q0, q1, q2⟩, ⟨r0, r1, r2⟩, -⟩ := HS2.out))
            | (go_at_call 65; ((with_reducible refine (HLbc.out _).mono ?_); rintro e w3 ⟨rfl, hb3⟩)))
          go_meet
          case rel => exact ⟨rfl, HS2.out.step hb3⟩
        | true =>
          have hlc : lc = true := HTR.out rfl rfl
          subst hlc
          go_wp2_with (first
            | (go_at_call 65; ((with_reducible refine (HLab.out _).mono ?_); rintro e w2 ⟨rfl, hb2⟩; have HS2 := Lib.hid (HS0.out.step hb2); clear hb2; obtain ⟨⟨p0, p1, p2⟩, ⟨q0, q1, q2⟩, ⟨r0, r1, r2⟩, -⟩ := HS2.out))
            | (go_at_call 65; ((with_reducible refine (HLbc.out _).mono ?_); rintro e w3 ⟨rfl, hb3⟩; have HS3 := Lib.hid (HS2.out.step hb3); clear hb3; obtain ⟨⟨p0, p1, p2⟩, ⟨q0, q1, q2⟩, ⟨r0, r1, r2⟩, -⟩ := HS3.out))
            | (go_at_call 65; ((with_reducible refine (HLac.out _).mono ?_); rintro e w4 ⟨rfl, hb4⟩)))
          go_meet
          case rel => exact ⟨rfl, HS3.out.step hb4⟩
    case rest =>
      obtain ⟨rfl, hHeld⟩ := hcut
      have HSS := Lib.hid (hHeld.step (Below.refl _ _).drew)
      clear hHeld HS0 HLab HLbc HLac HTR
      go_upto_region 5 with (fail)
      refine wp_region_held_drew (S := (fun we => Held3 w.heap.size (w.heap.size + 1) (w.heap.size + 1 + 1) ⟨ak, ap, as_⟩ ⟨bk, bp, bs⟩ ⟨ck, cp, cs⟩ w we)) (by kernel_rfl) ?_ (fun hHeld => ?_)
      · first | exact HSS.out | exact hSn
      refine wpAnyH_take (i := 0) (oi := { dst := some 52, op := _, type := _, pos := _, after := _, guard := _ }) (v := ?_) rfl (by kernel_rfl) (by kernel_rfl) (by kernel_rfl) (fun _ _ _ h => h) (Or.inl ⟨by rfl, ?_⟩) (by assumption) ?_
      rotate_left
      · intro w hSw; (try dsimp only at hSw); go_simp; (try with_reducible rfl)
      try simp only [Act.put, List.setIfInBounds_toArray, List.set_cons_zero, List.set_cons_succ]
      refine wpAnyH_take (i := 2) (oi := { dst := some 54, op := _, type := _, pos := _, after := _, guard := _ }) (v := ?_) rfl (by kernel_rfl) (by kernel_rfl) (by kernel_rfl) (fun _ _ _ h => h) (Or.inl ⟨by rfl, ?_⟩) (by assumption) ?_
      rotate_left
      · intro w hSw; (try dsimp only at hSw); go_simp; (try with_reducible rfl)
      try simp only [Act.put, List.setIfInBounds_toArray, List.set_cons_zero, List.set_cons_succ]
      refine wpAnyH_take (i := 3) (oi := { dst := some 55, op := _, type := _, pos := _, after := _, guard := _ }) (v := ?_) rfl (by kernel_rfl) (by kernel_rfl) (by kernel_rfl) (fun _ _ _ h => h) (Or.inl ⟨by rfl, ?_⟩) (by assumption) ?_
      rotate_left
      · intro w hSw; (try dsimp only at hSw); go_simp; (try with_reducible rfl)
      try simp only [Act.put, List.setIfInBounds_toArray, List.set_cons_zero, List.set_cons_succ]
      refine wpAnyH_ready (rs := [1]) (by kernel_rfl) (by simp) ?_
      refine AllReadyH.cons (o := { dst := some 53, op := _, type := _, pos := _, after := _, guard := _ }) rfl (fun K hK => ?_) ?_
      rotate_left
      · exact AllReadyH.nil
      go_simp
      refine (HP.out _).mono ?_; rintro e w2 ⟨rfl, hb2⟩; have hSn := hHeld.step hb2; clear hHeld hb2; try go_simp
      refine hK.out _ _ ?_ (fun hHeld => ?_)
      · first | exact HSS.out | exact hSn
      clear hK K
      try simp only [Act.put, List.setIfInBounds_toArray, List.set_cons_zero, List.set_cons_succ]
      refine wpAnyH_ready (rs := [4]) (by kernel_rfl) (by simp) ?_
      refine AllReadyH.cons (o := { dst := some 56, op := _, type := _, pos := _, after := _, guard := _ }) rfl (fun K hK => ?_) ?_
      rotate_left
      · exact AllReadyH.nil
      go_simp
      refine (HC.out _).mono ?_; rintro e w2 ⟨rfl, hb2⟩; have hSn := hHeld.step hb2; clear hHeld hb2; try go_simp
      refine hK.out _ _ ?_ (fun hHeld => ?_)
      · first | exact HSS.out | exact hSn
      clear hK K
      try simp only [Act.put, List.setIfInBounds_toArray, List.set_cons_zero, List.set_cons_succ]
      refine wpAnyH_take (i := 5) (oi := { dst := some 9, op := _, type := _, pos := _, after := _, guard := _ }) (v := ?_) rfl (by kernel_rfl) (by kernel_rfl) (by kernel_rfl) (fun _ _ _ h => h) (Or.inl ⟨by rfl, ?_⟩) (by assumption) ?_
      rotate_left
      · intro w hSw; (try dsimp only at hSw); go_simp; (try with_reducible rfl)
      try simp only [Act.put, List.setIfInBounds_toArray, List.set_cons_zero, List.set_cons_succ]
      refine wpAnyH_take (i := 6) (oi := { dst := some 10, op := _, type := _, pos := _, after := _, guard := _ }) (v := ?_) rfl (by kernel_rfl) (by kernel_rfl) (by kernel_rfl) (fun _ _ _ h => h) (Or.inl ⟨by rfl, ?_⟩) (by assumption) ?_
      rotate_left
      · intro w hSw; (try dsimp only at hSw); go_simp; (try with_reducible rfl)
      try simp only [Act.put, List.setIfInBounds_toArray, List.set_cons_zero, List.set_cons_succ]
      refine wpAnyH_done (by kernel_rfl) ?_ _
      have HS5 := Lib.hid hHeld
      clear hHeld HSS
      obtain ⟨x, xo, hgx, hwx⟩ := order_bytesE ⟨ak, ap, as_⟩
      obtain ⟨y, yn, yo, hgy, hwy⟩ := order_bytesC ⟨bk, bp, bs⟩ child
      have zP := putE_le ⟨ak, ap, as_⟩
      have zQ := putC_le ⟨bk, bp, bs⟩ child
      generalize Nd.putE ⟨ak, ap, as_⟩ = P at hgx hwx zP ⊢
      generalize Nd.putC ⟨bk, bp, bs⟩ child = Q at hgy hwy zQ ⊢
      have HG := Lib.hid (fun W => getEV_eq P ▸ getentry_any P zP W)
      have HK := Lib.hid (fun W => getCV_eq Q ▸ getchild_any Q zQ W)
      rw [hgx] at HG
      rw [hgy] at HK
      simp only at HG HK
      clear HP HC hgx hgy zP zQ ha hb
      have hnE : ∀ (q : ByteArray), ¬ q.size = 0 → q.toList.isEmpty = false ∧ ¬ q.toList = [] := fun q h => empty_no h
      have HNE := Lib.hid hnE
      clear hnE
      rcases hwx with ⟨rfl, rfl⟩ | ⟨hP0, rfl, rfl⟩ <;> rcases hwy with ⟨rfl, rfl⟩ | ⟨hQ0, rfl, rfl, rfl⟩
      · skip
        obtain ⟨xk, xp, xs⟩ := x
        obtain ⟨yk, yp, ys⟩ := y
        go_wp2_with (first
          | (go_at_call 66; refine (HG.out _).mono ?_; rintro e w6 ⟨rfl, hb6⟩; have HS6 := Lib.hid (HS5.out.step hb6); clear hb6)
          | (go_at_call 68; refine (HK.out _).mono ?_; rintro e w7 ⟨rfl, hb7⟩; have HX7 := Lib.hid (blk_new hb7); have HS7 := Lib.hid (HS6.out.step (below_past hb7)); clear hb7)
          | (go_at_call 56; refine (HW.out _).mono ?_; rintro e w8 ⟨rfl, hb8⟩; obtain ⟨x0, x1, x2⟩ := entAt_blk (e := ⟨xk, xp, xs⟩) (blk_past HX7.out hb8); obtain ⟨y0, y1, y2⟩ := entAt_blk (e := ⟨yk, yp, ys⟩) (blk_new hb8); have HS8 := Lib.hid (HS7.out.step (below_past hb8)); clear hb8; obtain ⟨⟨p0, p1, p2⟩, ⟨q0, q1, q2⟩, -, -⟩ := HS8.out))
        go_ret
        exact ⟨rfl, HS8.out.2.2.2.bw⟩
      · skip
        obtain ⟨xk, xp, xs⟩ := x
        obtain ⟨e3, e4⟩ := HNE.out Q hQ0
        have hey := fun W => (entry_equal ⟨bk, bp, bs⟩ ⟨bk, bp, bs⟩ W).trans (by rw [Nd.eqE_self])
        clear hQ0
        go_wp2_with (first
          | (go_at_call 66; refine (HG.out _).mono ?_; rintro e w6 ⟨rfl, hb6⟩; have HS6 := Lib.hid (HS5.out.step hb6); clear hb6)
          | (go_at_call 68; refine (HK.out _).mono ?_; rintro e w7 ⟨rfl, hb7⟩; have HX7 := Lib.hid (blk_new hb7); have HS7 := Lib.hid (HS6.out.step (below_past hb7)); clear hb7)
          | (go_at_call 56; refine (HW.out _).mono ?_; rintro e w8 ⟨rfl, hb8⟩; obtain ⟨x0, x1, x2⟩ := entAt_blk (e := ⟨xk, xp, xs⟩) (blk_past HX7.out hb8); obtain ⟨y0, y1, y2⟩ := entAt_blk (e := ⟨bk, bp, bs⟩) (blk_new hb8); have HS8 := Lib.hid (HS7.out.step (below_past hb8)); clear hb8; obtain ⟨⟨p0, p1, p2⟩, ⟨q0, q1, q2⟩, -, -⟩ := HS8.out))
        go_ret
        exact ⟨rfl, HS8.out.2.2.2.bw⟩
      · skip
        obtain ⟨e1, e2⟩ := HNE.out P hP0
        have hex := fun W => (entry_equal ⟨ak, ap, as_⟩ ⟨ak, ap, as_⟩ W).trans (by rw [Nd.eqE_self])
        clear hP0
        obtain ⟨yk, yp, ys⟩ := y
        go_wp2_with (first
          | (go_at_call 66; refine (HG.out _).mono ?_; rintro e w6 ⟨rfl, hb6⟩; have HS6 := Lib.hid (HS5.out.step hb6); clear hb6)
          | (go_at_call 68; refine (HK.out _).mono ?_; rintro e w7 ⟨rfl, hb7⟩; have HX7 := Lib.hid (blk_new hb7); have HS7 := Lib.hid (HS6.out.step (below_past hb7)); clear hb7)
          | (go_at_call 56; refine (HW.out _).mono ?_; rintro e w8 ⟨rfl, hb8⟩; obtain ⟨x0, x1, x2⟩ := entAt_blk (e := ⟨ak, ap, as_⟩) (blk_past HX7.out hb8); obtain ⟨y0, y1, y2⟩ := entAt_blk (e := ⟨yk, yp, ys⟩) (blk_new hb8); have HS8 := Lib.hid (HS7.out.step (below_past hb8)); clear hb8; obtain ⟨⟨p0, p1, p2⟩, ⟨q0, q1, q2⟩, -, -⟩ := HS8.out))
        go_ret
        exact ⟨rfl, HS8.out.2.2.2.bw⟩
      · skip
        obtain ⟨e1, e2⟩ := HNE.out P hP0
        have hex := fun W => (entry_equal ⟨ak, ap, as_⟩ ⟨ak, ap, as_⟩ W).trans (by rw [Nd.eqE_self])
        clear hP0
        obtain ⟨e3, e4⟩ := HNE.out Q hQ0
        have hey := fun W => (entry_equal ⟨bk, bp, bs⟩ ⟨bk, bp, bs⟩ W).trans (by rw [Nd.eqE_self])
        clear hQ0
        go_wp2_with (first
          | (go_at_call 66; refine (HG.out _).mono ?_; rintro e w6 ⟨rfl, hb6⟩; have HS6 := Lib.hid (HS5.out.step hb6); clear hb6)
          | (go_at_call 68; refine (HK.out _).mono ?_; rintro e w7 ⟨rfl, hb7⟩; have HX7 := Lib.hid (blk_new hb7); have HS7 := Lib.hid (HS6.out.step (below_past hb7)); clear hb7)
          | (go_at_call 56; refine (HW.out _).mono ?_; rintro e w8 ⟨rfl, hb8⟩; obtain ⟨x0, x1, x2⟩ := entAt_blk (e := ⟨ak, ap, as_⟩) (blk_past HX7.out hb8); obtain ⟨y0, y1, y2⟩ := entAt_blk (e := ⟨bk, bp, bs⟩) (blk_new hb8); have HS8 := Lib.hid (HS7.out.step (below_past hb8)); clear hb8; obtain ⟨⟨p0, p1, p2⟩, ⟨q0, q1, q2⟩, -, -⟩ := HS8.out))
        go_ret
        exact ⟨rfl, HS8.out.2.2.2.bw⟩
end Go.Proofs.Ytgbihdlahghonaa
