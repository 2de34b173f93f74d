/- The walks over package page and its reference: the reference's SetLsn, SetLink. -/
import Derived.Test.YtgbihdlahghonaaPageN
namespace Go.Proofs.Ytgbihdlahghonaa
open Go.RowKit

set_option maxRecDepth 100000 in
set_option maxHeartbeats 1000000 in
theorem rsetlsn_any (p : ByteArray) (n : Int) (hm : p.size ≤ 1048576) (w : World) :
    Calls Try.prog 40 #[.string p, .int .i64 n] w fun e w' => e = .returned (.string (lsnB p n)) ∧ Below w.heap.size w w' := by
  have HT := Lib.hid (fun W => rparts_leaf p hm W)
  have hfine := Pg.leafOf_fine p.data.toList
  cases hb : isPg p with
  | false =>
    rw [show lsnB p n = ⟨#[]⟩ from if_pos (.inl hb)]
    rw [hb] at HT
    generalize leafP p = x at HT
    clear hfine
    go_enter Try.func40, Try.ntmps40
    go_wp2_with (go_at_call 78; refine (HT.out _).mono ?_; rintro e w1 ⟨y, A, c, rfl, hcl, hb1⟩)
    go_ret
    exact ⟨rfl, below_past_alloc hb1⟩
  | true =>
    rw [hb] at HT
    by_cases h1 : n < 0
    · rw [show lsnB p n = ⟨#[]⟩ from if_pos (.inr (.inl h1))]
      generalize leafP p = x at HT
      clear hfine
      go_enter Try.func40, Try.ntmps40
      go_wp2_with (go_at_call 78; refine (HT.out _).mono ?_; rintro e w1 ⟨y, A, c, rfl, hcl, hb1⟩)
      go_ret
      exact ⟨rfl, below_past_alloc hb1⟩
    · by_cases h2 : 281474976710656 ≤ n
      · rw [show lsnB p n = ⟨#[]⟩ from if_pos (.inr (.inr h2))]
        generalize leafP p = x at HT
        clear hfine
        go_enter Try.func40, Try.ntmps40
        go_wp2_with (go_at_call 78; refine (HT.out _).mono ?_; rintro e w1 ⟨y, A, c, rfl, hcl, hb1⟩)
        go_ret
        exact ⟨rfl, below_past_alloc hb1⟩
      · have hnn : ((n.toNat : Nat) : Int) = n := by omega
        have hk : n.toNat < 281474976710656 := by omega
        rw [show lsnB p n = ⟨(Pg.layL ⟨n.toNat, (leafP p).kind, (leafP p).link, (leafP p).recs⟩).toArray⟩ by unfold lsnB; rw [if_neg (by rw [hb]; simp; omega)]]
        have h3 : (0 : Int) ≤ n := by omega
        have h4 : n < 281474976710656 := by omega
        clear h1 h2
        change Pg.Fine (leafP p) at hfine
        generalize leafP p = x at HT hfine ⊢
        have HM := Lib.hid (fun A c W hW => rlay_any ⟨n.toNat, x.kind, x.link, x.recs⟩ A c ⟨hk, hfine.small.2.1, hfine.small.2.2⟩ (by have := hfine.sizeN; show Pg.sizeN x.recs ≤ _; omega) W hW)
        clear hfine hk hb
        generalize (⟨(Pg.layL ⟨n.toNat, x.kind, x.link, x.recs⟩).toArray⟩ : ByteArray) = q at HM ⊢
        simp only [hnn] at HM
        clear hnn
        go_enter Try.func40, Try.ntmps40
        go_wp2_with (first | (go_at_call 78; refine (HT.out _).mono ?_; rintro e w1 ⟨y, A, c, rfl, hcl, hb1⟩; obtain ⟨hy, hco⟩ := hcl rfl; clear hcl; subst hy) | (go_at_call 88; refine (HM.out _ _ _ ((hco.cells).below ((Below.refl _ _).alloc (Nat.le_refl _) _))).mono ?_; rintro e w2 ⟨rfl, hb2⟩))
        go_ret
        exact ⟨rfl, andThen (below_past_alloc hb1) hb2⟩
set_option maxRecDepth 100000 in
set_option maxHeartbeats 1000000 in
theorem rsetlink_any (p : ByteArray) (n : Int) (hm : p.size ≤ 1048576) (w : World) :
    Calls Try.prog 42 #[.string p, .int .i64 n] w fun e w' => e = .returned (.string (linkB p n)) ∧ Below w.heap.size w w' := by
  have HT := Lib.hid (fun W => rparts_leaf p hm W)
  have hfine := Pg.leafOf_fine p.data.toList
  cases hb : isPg p with
  | false =>
    rw [show linkB p n = ⟨#[]⟩ from if_pos (.inl hb)]
    rw [hb] at HT
    generalize leafP p = x at HT
    clear hfine
    go_enter Try.func42, Try.ntmps42
    go_wp2_with (go_at_call 78; refine (HT.out _).mono ?_; rintro e w1 ⟨y, A, c, rfl, hcl, hb1⟩)
    go_ret
    exact ⟨rfl, below_past_alloc hb1⟩
  | true =>
    rw [hb] at HT
    by_cases h1 : n < 0
    · rw [show linkB p n = ⟨#[]⟩ from if_pos (.inr (.inl h1))]
      generalize leafP p = x at HT
      clear hfine
      go_enter Try.func42, Try.ntmps42
      go_wp2_with (go_at_call 78; refine (HT.out _).mono ?_; rintro e w1 ⟨y, A, c, rfl, hcl, hb1⟩)
      go_ret
      exact ⟨rfl, below_past_alloc hb1⟩
    · by_cases h2 : 16777216 ≤ n
      · rw [show linkB p n = ⟨#[]⟩ from if_pos (.inr (.inr h2))]
        generalize leafP p = x at HT
        clear hfine
        go_enter Try.func42, Try.ntmps42
        go_wp2_with (go_at_call 78; refine (HT.out _).mono ?_; rintro e w1 ⟨y, A, c, rfl, hcl, hb1⟩)
        go_ret
        exact ⟨rfl, below_past_alloc hb1⟩
      · have hnn : ((n.toNat : Nat) : Int) = n := by omega
        have hk : n.toNat < 16777216 := by omega
        rw [show linkB p n = ⟨(Pg.layL ⟨(leafP p).lsn, (leafP p).kind, n.toNat, (leafP p).recs⟩).toArray⟩ by unfold linkB; rw [if_neg (by rw [hb]; simp; omega)]]
        have h3 : (0 : Int) ≤ n := by omega
        have h4 : n < 16777216 := by omega
        clear h1 h2
        change Pg.Fine (leafP p) at hfine
        generalize leafP p = x at HT hfine ⊢
        have HM := Lib.hid (fun A c W hW => rlay_any ⟨x.lsn, x.kind, n.toNat, x.recs⟩ A c ⟨hfine.small.1, hfine.small.2.1, hk⟩ (by have := hfine.sizeN; show Pg.sizeN x.recs ≤ _; omega) W hW)
        clear hfine hk hb
        generalize (⟨(Pg.layL ⟨x.lsn, x.kind, n.toNat, x.recs⟩).toArray⟩ : ByteArray) = q at HM ⊢
        simp only [hnn] at HM
        clear hnn
        go_enter Try.func42, Try.ntmps42
        go_wp2_with (first | (go_at_call 78; refine (HT.out _).mono ?_; rintro e w1 ⟨y, A, c, rfl, hcl, hb1⟩; obtain ⟨hy, hco⟩ := hcl rfl; clear hcl; subst hy) | (go_at_call 88; refine (HM.out _ _ _ ((hco.cells).below ((Below.refl _ _).alloc (Nat.le_refl _) _))).mono ?_; rintro e w2 ⟨rfl, hb2⟩))
        go_ret
        exact ⟨rfl, andThen (below_past_alloc hb1) hb2⟩
end Go.Proofs.Ytgbihdlahghonaa
