/- The walks over package page and its reference: the lowest free slot. -/
import Derived.Test.YtgbihdlahghonaaGs03
import Derived.IntWalk
import Derived.Test.YtgbihdlahghonaaGs01
import Derived.Lib.Bytealg
import Derived.Lib.Small
import Derived.Lib.SmallJoins
import Derived.ChangeSame
namespace Go.Proofs.Ytgbihdlahghonaa
open Go.RowKit

set_option maxRecDepth 100000 in
set_option maxHeartbeats 1000000 in
theorem free_any_leaf (x : Pg.Leaf) (A : Option Addr) (c : Nat) (hl : x.recs.length ≤ 1099511627776) (w : World) (h : Cells w A c x.recs) :
    Calls Try.prog 79 #[leafV x A c] w fun e w' => e = .returned (.int .i64 (Pg.freeN x.recs : Nat)) ∧ Below w.heap.size w w' := by
  have HC := Lib.hid (h.below ((Below.refl w.heap.size w).alloc (Nat.le_refl _) (.cells #[.int .i64 x.lsn, .int .i64 x.kind, .int .i64 x.link, .slice A x.recs.length c] 67 (0, 0))))
  clear h
  go_enter Try.func79, Try.ntmps79
  go_wp2_with fail
  go_loop [8] (fun i => ∃ k : Nat, k ≤ x.recs.length ∧ i = .int .i64 k ∧ Pg.freeN x.recs = k + Pg.freeN (x.recs.drop k)) (fun i => x.recs.length - (intOf i).toNat)
  case atStart => exact ⟨0, Nat.zero_le _, rfl, by simp⟩
  case round =>
    obtain ⟨k, hk, rfl, hf⟩ := hrel
    have HF := Lib.hid hf
    clear hf
    by_cases hlt : k < x.recs.length
    · obtain ⟨b, off, rfl, hc, hbl, hcell⟩ := HC.out.at_ hlt
      have HS := Lib.hid (Pg.freeN_at x.recs k hlt)
      obtain ⟨r, hr⟩ : ∃ r, r = x.recs[k] := ⟨_, rfl⟩
      rw [← hr] at hcell
      have HR := Lib.hid hr
      clear hr
      have hie : r.toList.isEmpty = decide (r.size = 0) := empty_iff r
      by_cases he : r.size = 0
      · rw [decide_eq_true he] at hie
        have HV := Lib.hid (show Pg.freeN x.recs = k by rw [HF.out, HS.out, ← HR.out, if_pos he]; rfl)
        clear he
        go_wp2_with fail
        go_ret
        exact ⟨by rw [HV.out]; rfl, (Below.refl _ _).alloc (Nat.le_refl _) _⟩
      · rw [decide_eq_false he] at hie
        have HV := Lib.hid (show Pg.freeN x.recs = (k + 1) + Pg.freeN (x.recs.drop (k + 1)) by rw [HF.out, HS.out, ← HR.out, if_neg he]; omega)
        clear he
        go_wp2_with fail
        go_round
        case rel => exact ⟨k + 1, by omega, by go_num, HV.out⟩
        case measure => simp [intOf]; omega
    · obtain rfl : k = x.recs.length := by omega
      have HV := Lib.hid (show Pg.freeN x.recs = x.recs.length by rw [HF.out, List.drop_length]; rfl)
      go_wp2_with fail
      go_ret
      exact ⟨by rw [HV.out]; rfl, (Below.refl _ _).alloc (Nat.le_refl _) _⟩

set_option maxRecDepth 100000 in
set_option maxHeartbeats 1000000 in
theorem free_any (p : ByteArray) (hm : p.size ≤ 140737488355328) (w : World) :
    Calls Try.prog 27 #[.string p] w fun e w' => e = .returned (.int .i64 (Pg.freeN (leafP p).recs : Nat)) ∧ Below w.heap.size w w' := by
  have HT := Lib.hid (fun W => take_leaf p hm W)
  have hl : (leafP p).recs.length ≤ 1099511627776 := by have := (Pg.leafOf_fine p.data.toList).len; unfold leafP; omega
  have HF := Lib.hid (fun A c W hW => free_any_leaf (leafP p) A c hl W hW)
  generalize isPg p = b at HT
  generalize leafP p = x at HT HF hl ⊢
  go_enter Try.func27, Try.ntmps27
  go_wp2_with (first | (go_at_call 75; refine (HT.out _).mono ?_; rintro e w1 ⟨A, c, rfl, hcl, hb1⟩) | (go_at_call 79; refine (HF.out _ _ _ (hcl.cells.below ((Below.refl _ _).alloc (Nat.le_refl _) _))).mono ?_; rintro e w2 ⟨rfl, hb2⟩))
  go_ret
  exact ⟨rfl, andThen (below_past_alloc hb1) hb2⟩
end Go.Proofs.Ytgbihdlahghonaa
/- The walks over package page and its reference: the reference's Free. -/
namespace Go.Proofs.Ytgbihdlahghonaa
open Go.RowKit

set_option maxRecDepth 100000 in
set_option maxHeartbeats 1000000 in
theorem rfree_any (p : ByteArray) (hm : p.size ≤ 140737488355328) (w : World) :
    Calls Try.prog 28 #[.string p] w fun e w' => e = .returned (.int .i64 (Pg.freeN (leafP p).recs : Nat)) ∧ Below w.heap.size w w' := by
  have HT := Lib.hid (fun W => rpart_any p hm W)
  have hl : (leafP p).recs.length ≤ 1099511627776 := by have := (Pg.leafOf_fine p.data.toList).len; unfold leafP; omega
  generalize leafP p = x at HT hl ⊢
  go_enter Try.func28, Try.ntmps28
  go_wp2_with (go_at_call 77; refine (HT.out _).mono ?_; rintro e w1 ⟨A, c, rfl, hcl, hb1⟩)
  have HC := Lib.hid (hcl.cells.below ((Below.refl w1.heap.size w1).alloc (Nat.le_refl _) (.cells #[.int .i64 x.lsn, .int .i64 x.kind, .int .i64 x.link, .slice A x.recs.length c] 71 (0, 0))))
  go_loop [4] (fun i => ∃ k : Nat, k ≤ x.recs.length ∧ i = .int .i64 k ∧ Pg.freeN x.recs = k + Pg.freeN (x.recs.drop k)) (fun i => x.recs.length - (intOf i).toNat)
  case atStart => exact ⟨0, Nat.zero_le _, rfl, by simp⟩
  case round =>
    obtain ⟨k, hk, rfl, hf⟩ := hrel
    have HF := Lib.hid hf
    clear hf
    by_cases hlt : k < x.recs.length
    · obtain ⟨b, off, rfl, hc, hbl, hcell⟩ := HC.out.at_ hlt
      have HS := Lib.hid (Pg.freeN_at x.recs k hlt)
      obtain ⟨r, hr⟩ : ∃ r, r = x.recs[k] := ⟨_, rfl⟩
      rw [← hr] at hcell
      have HR := Lib.hid hr
      clear hr
      have hie : r.toList.isEmpty = decide (r.size = 0) := empty_iff r
      by_cases he : r.size = 0
      · rw [decide_eq_true he] at hie
        have HV := Lib.hid (show Pg.freeN x.recs = k by rw [HF.out, HS.out, ← HR.out, if_pos he]; rfl)
        clear he
        go_wp2_with fail
        go_ret
        exact ⟨by rw [HV.out]; rfl, below_past_alloc hb1⟩
      · rw [decide_eq_false he] at hie
        have HV := Lib.hid (show Pg.freeN x.recs = (k + 1) + Pg.freeN (x.recs.drop (k + 1)) by rw [HF.out, HS.out, ← HR.out, if_neg he]; omega)
        clear he
        go_wp2_with fail
        go_round
        case rel => exact ⟨k + 1, by omega, by go_num, HV.out⟩
        case measure => simp [intOf]; omega
    · obtain rfl : k = x.recs.length := by omega
      have HV := Lib.hid (show Pg.freeN x.recs = x.recs.length by rw [HF.out, List.drop_length]; rfl)
      go_wp2_with fail
      go_ret
      exact ⟨by rw [HV.out]; rfl, below_past_alloc hb1⟩
end Go.Proofs.Ytgbihdlahghonaa
/- The walks over package page and its reference: may. -/
namespace Go.Proofs.Ytgbihdlahghonaa
open Go.RowKit

set_option maxRecDepth 100000 in
set_option maxHeartbeats 1000000 in
theorem may_any (r : ByteArray) (w : World) :
    Calls Try.prog 84 #[.string r] w fun e w' => e = .returned (.bool (decide (1 ≤ r.size ∧ r.size ≤ 400))) ∧ w = w' := by
  by_cases h1 : 1 ≤ r.size
  · by_cases h2 : r.size ≤ 400
    · rw [decide_eq_true ⟨h1, h2⟩]
      have h3 : (1 : Int) ≤ (r.size : Int) := by omega
      have h4 : (r.size : Int) ≤ 400 := by omega
      go_enter Try.func84, Try.ntmps84
      go_wp2_with fail
      go_ret
      exact ⟨by simp, rfl⟩
    · rw [decide_eq_false (fun h => h2 h.2)]
      have h3 : (1 : Int) ≤ (r.size : Int) := by omega
      have h4 : (400 : Int) < (r.size : Int) := by omega
      go_enter Try.func84, Try.ntmps84
      go_wp2_with fail
      go_ret
      exact ⟨by simp [Int.not_le.2 h4], rfl⟩
  · rw [decide_eq_false (fun h => h1 h.1)]
    have h3 : (r.size : Int) < 1 := by omega
    go_enter Try.func84, Try.ntmps84
    go_wp2_with fail
    go_ret
    exact ⟨by simp, rfl⟩
set_option maxRecDepth 100000 in
set_option maxHeartbeats 1000000 in
theorem rmay_any (r : ByteArray) (w : World) :
    Calls Try.prog 89 #[.string r] w fun e w' => e = .returned (.bool (decide (1 ≤ r.size ∧ r.size ≤ 400))) ∧ w = w' := by
  by_cases h1 : 1 ≤ r.size
  · by_cases h2 : r.size ≤ 400
    · rw [decide_eq_true ⟨h1, h2⟩]
      have h3 : (1 : Int) ≤ (r.size : Int) := by omega
      have h4 : (r.size : Int) ≤ 400 := by omega
      go_enter Try.func89, Try.ntmps89
      go_wp2_with fail
      go_ret
      exact ⟨by simp, rfl⟩
    · rw [decide_eq_false (fun h => h2 h.2)]
      have h3 : (1 : Int) ≤ (r.size : Int) := by omega
      have h4 : (400 : Int) < (r.size : Int) := by omega
      go_enter Try.func89, Try.ntmps89
      go_wp2_with fail
      go_ret
      exact ⟨by simp [Int.not_le.2 h4], rfl⟩
  · rw [decide_eq_false (fun h => h1 h.1)]
    have h3 : (r.size : Int) < 1 := by omega
    go_enter Try.func89, Try.ntmps89
    go_wp2_with fail
    go_ret
    exact ⟨by simp, rfl⟩
end Go.Proofs.Ytgbihdlahghonaa
/- The walks over package page and its reference: a new page. -/
namespace Go.Proofs.Ytgbihdlahghonaa
open Go.RowKit

/-- A new page of a kind; empty: there is no such kind. -/
def newB (n : Int) : ByteArray := if n < 0 ∨ 4 < n then ⟨#[]⟩ else ⟨(Pg.layL ⟨0, n.toNat, 0, []⟩).toArray⟩

set_option maxRecDepth 100000 in
set_option maxHeartbeats 1000000 in
theorem new_any (n : Int) (w : World) :
    Calls Try.prog 37 #[.int .i64 n] w fun e w' => e = .returned (.string (newB n)) ∧ Below w.heap.size w w' := by
  by_cases h1 : n < 0
  · rw [show newB n = ⟨#[]⟩ from if_pos (.inl h1)]
    go_enter Try.func37, Try.ntmps37
    go_wp2_with fail
    go_ret
    exact ⟨rfl, Below.refl _ _⟩
  · by_cases h2 : 4 < n
    · rw [show newB n = ⟨#[]⟩ from if_pos (.inr h2)]
      go_enter Try.func37, Try.ntmps37
      go_wp2_with fail
      go_ret
      exact ⟨rfl, Below.refl _ _⟩
    · obtain ⟨k, rfl⟩ := Int.eq_ofNat_of_zero_le (show 0 ≤ n by omega)
      have HM := Lib.hid (fun W => made_any ⟨0, k, 0, []⟩ none 0 ⟨(by show 0 < 281474976710656; omega), (by show k ≤ 4; omega), (by show 0 < 16777216; omega)⟩ (by show 19 ≤ 1099511627776; omega) W (fun h0 => by simp at h0))
      rw [show newB (k : Int) = ⟨(Pg.layL ⟨0, k, 0, []⟩).toArray⟩ by unfold newB; rw [if_neg (by omega)]; rfl]
      generalize (⟨(Pg.layL ⟨0, k, 0, []⟩).toArray⟩ : ByteArray) = q at HM ⊢
      have h3 : (0 : Int) ≤ (k : Int) := by omega
      have h4 : (k : Int) ≤ 4 := by omega
      clear h1 h2
      go_enter Try.func37, Try.ntmps37
      go_wp2_with (go_at_call 87; refine (HM.out _).mono ?_; rintro e w1 ⟨rfl, hb1⟩)
      go_ret
      exact ⟨rfl, hb1⟩
set_option maxRecDepth 100000 in
set_option maxHeartbeats 1000000 in
theorem rnew_any (n : Int) (w : World) :
    Calls Try.prog 38 #[.int .i64 n] w fun e w' => e = .returned (.string (newB n)) ∧ Below w.heap.size w w' := by
  by_cases h1 : n < 0
  · rw [show newB n = ⟨#[]⟩ from if_pos (.inl h1)]
    go_enter Try.func38, Try.ntmps38
    go_wp2_with fail
    go_ret
    exact ⟨rfl, Below.refl _ _⟩
  · by_cases h2 : 4 < n
    · rw [show newB n = ⟨#[]⟩ from if_pos (.inr h2)]
      go_enter Try.func38, Try.ntmps38
      go_wp2_with fail
      go_ret
      exact ⟨rfl, Below.refl _ _⟩
    · obtain ⟨k, rfl⟩ := Int.eq_ofNat_of_zero_le (show 0 ≤ n by omega)
      have HM := Lib.hid (fun W => rlay_any ⟨0, k, 0, []⟩ none 0 ⟨(by show 0 < 281474976710656; omega), (by show k ≤ 4; omega), (by show 0 < 16777216; omega)⟩ (by show 19 ≤ 1099511627776; omega) W (fun h0 => by simp at h0))
      rw [show newB (k : Int) = ⟨(Pg.layL ⟨0, k, 0, []⟩).toArray⟩ by unfold newB; rw [if_neg (by omega)]; rfl]
      generalize (⟨(Pg.layL ⟨0, k, 0, []⟩).toArray⟩ : ByteArray) = q at HM ⊢
      have h3 : (0 : Int) ≤ (k : Int) := by omega
      have h4 : (k : Int) ≤ 4 := by omega
      clear h1 h2
      go_enter Try.func38, Try.ntmps38
      go_wp2_with (go_at_call 88; refine (HM.out _).mono ?_; rintro e w1 ⟨rfl, hb1⟩)
      go_ret
      exact ⟨rfl, hb1⟩
end Go.Proofs.Ytgbihdlahghonaa
/- The walks over package page and its reference: another LSN, another link. -/
namespace Go.Proofs.Ytgbihdlahghonaa
open Go.RowKit

/-- A page with another LSN, with the sum 0; empty: it can't be. -/
def lsnB (p : ByteArray) (n : Int) : ByteArray := if isPg p = false ∨ n < 0 ∨ 281474976710656 ≤ n then ⟨#[]⟩ else ⟨(Pg.layL ⟨n.toNat, (leafP p).kind, (leafP p).link, (leafP p).recs⟩).toArray⟩
def linkB (p : ByteArray) (n : Int) : ByteArray := if isPg p = false ∨ n < 0 ∨ 16777216 ≤ n then ⟨#[]⟩ else ⟨(Pg.layL ⟨(leafP p).lsn, (leafP p).kind, n.toNat, (leafP p).recs⟩).toArray⟩

set_option maxRecDepth 100000 in
set_option maxHeartbeats 1000000 in
theorem setlsn_any (p : ByteArray) (n : Int) (hm : p.size ≤ 140737488355328) (w : World) :
    Calls Try.prog 39 #[.string p, .int .i64 n] w fun e w' => e = .returned (.string (lsnB p n)) ∧ Below w.heap.size w w' := by
  have HT := Lib.hid (fun W => take_leaf p hm W)
  have hfine := Pg.leafOf_fine p.data.toList
  cases hb : isPg p with
  | false =>
    rw [show lsnB p n = ⟨#[]⟩ from if_pos (.inl hb)]
    rw [hb] at HT
    generalize leafP p = x at HT
    clear hfine
    go_enter Try.func39, Try.ntmps39
    go_wp2_with (go_at_call 75; refine (HT.out _).mono ?_; rintro e w1 ⟨A, c, rfl, hcl, hb1⟩)
    go_ret
    exact ⟨rfl, below_past_alloc hb1⟩
  | true =>
    rw [hb] at HT
    by_cases h1 : n < 0
    · rw [show lsnB p n = ⟨#[]⟩ from if_pos (.inr (.inl h1))]
      generalize leafP p = x at HT
      clear hfine
      go_enter Try.func39, Try.ntmps39
      go_wp2_with (go_at_call 75; refine (HT.out _).mono ?_; rintro e w1 ⟨A, c, rfl, hcl, hb1⟩)
      go_ret
      exact ⟨rfl, below_past_alloc hb1⟩
    · by_cases h2 : 281474976710656 ≤ n
      · rw [show lsnB p n = ⟨#[]⟩ from if_pos (.inr (.inr h2))]
        generalize leafP p = x at HT
        clear hfine
        go_enter Try.func39, Try.ntmps39
        go_wp2_with (go_at_call 75; refine (HT.out _).mono ?_; rintro e w1 ⟨A, c, rfl, hcl, hb1⟩)
        go_ret
        exact ⟨rfl, below_past_alloc hb1⟩
      · have hnn : ((n.toNat : Nat) : Int) = n := by omega
        have hk : n.toNat < 281474976710656 := by omega
        rw [show lsnB p n = ⟨(Pg.layL ⟨n.toNat, (leafP p).kind, (leafP p).link, (leafP p).recs⟩).toArray⟩ by unfold lsnB; rw [if_neg (by rw [hb]; simp; omega)]]
        have h3 : (0 : Int) ≤ n := by omega
        have h4 : n < 281474976710656 := by omega
        clear h1 h2
        change Pg.Fine (leafP p) at hfine
        generalize leafP p = x at HT hfine ⊢
        have HM := Lib.hid (fun A c W hW => made_any ⟨n.toNat, x.kind, x.link, x.recs⟩ A c ⟨hk, hfine.small.2.1, hfine.small.2.2⟩ (by have := hfine.sizeN; show Pg.sizeN x.recs ≤ _; omega) W hW)
        clear hfine hk hb
        generalize (⟨(Pg.layL ⟨n.toNat, x.kind, x.link, x.recs⟩).toArray⟩ : ByteArray) = q at HM ⊢
        simp only [hnn] at HM
        clear hnn
        go_enter Try.func39, Try.ntmps39
        go_wp2_with (first | (go_at_call 75; refine (HT.out _).mono ?_; rintro e w1 ⟨A, c, rfl, hcl, hb1⟩) | (go_at_call 87; refine (HM.out A c _ (hcl.cells.below ((Below.refl _ _).alloc (Nat.le_refl _) _))).mono ?_; rintro e w2 ⟨rfl, hb2⟩))
        go_ret
        exact ⟨rfl, andThen (below_past_alloc hb1) hb2⟩
set_option maxRecDepth 100000 in
set_option maxHeartbeats 1000000 in
theorem setlink_any (p : ByteArray) (n : Int) (hm : p.size ≤ 140737488355328) (w : World) :
    Calls Try.prog 41 #[.string p, .int .i64 n] w fun e w' => e = .returned (.string (linkB p n)) ∧ Below w.heap.size w w' := by
  have HT := Lib.hid (fun W => take_leaf p hm W)
  have hfine := Pg.leafOf_fine p.data.toList
  cases hb : isPg p with
  | false =>
    rw [show linkB p n = ⟨#[]⟩ from if_pos (.inl hb)]
    rw [hb] at HT
    generalize leafP p = x at HT
    clear hfine
    go_enter Try.func41, Try.ntmps41
    go_wp2_with (go_at_call 75; refine (HT.out _).mono ?_; rintro e w1 ⟨A, c, rfl, hcl, hb1⟩)
    go_ret
    exact ⟨rfl, below_past_alloc hb1⟩
  | true =>
    rw [hb] at HT
    by_cases h1 : n < 0
    · rw [show linkB p n = ⟨#[]⟩ from if_pos (.inr (.inl h1))]
      generalize leafP p = x at HT
      clear hfine
      go_enter Try.func41, Try.ntmps41
      go_wp2_with (go_at_call 75; refine (HT.out _).mono ?_; rintro e w1 ⟨A, c, rfl, hcl, hb1⟩)
      go_ret
      exact ⟨rfl, below_past_alloc hb1⟩
    · by_cases h2 : 16777216 ≤ n
      · rw [show linkB p n = ⟨#[]⟩ from if_pos (.inr (.inr h2))]
        generalize leafP p = x at HT
        clear hfine
        go_enter Try.func41, Try.ntmps41
        go_wp2_with (go_at_call 75; refine (HT.out _).mono ?_; rintro e w1 ⟨A, c, rfl, hcl, hb1⟩)
        go_ret
        exact ⟨rfl, below_past_alloc hb1⟩
      · have hnn : ((n.toNat : Nat) : Int) = n := by omega
        have hk : n.toNat < 16777216 := by omega
        rw [show linkB p n = ⟨(Pg.layL ⟨(leafP p).lsn, (leafP p).kind, n.toNat, (leafP p).recs⟩).toArray⟩ by unfold linkB; rw [if_neg (by rw [hb]; simp; omega)]]
        have h3 : (0 : Int) ≤ n := by omega
        have h4 : n < 16777216 := by omega
        clear h1 h2
        change Pg.Fine (leafP p) at hfine
        generalize leafP p = x at HT hfine ⊢
        have HM := Lib.hid (fun A c W hW => made_any ⟨x.lsn, x.kind, n.toNat, x.recs⟩ A c ⟨hfine.small.1, hfine.small.2.1, hk⟩ (by have := hfine.sizeN; show Pg.sizeN x.recs ≤ _; omega) W hW)
        clear hfine hk hb
        generalize (⟨(Pg.layL ⟨x.lsn, x.kind, n.toNat, x.recs⟩).toArray⟩ : ByteArray) = q at HM ⊢
        simp only [hnn] at HM
        clear hnn
        go_enter Try.func41, Try.ntmps41
        go_wp2_with (first | (go_at_call 75; refine (HT.out _).mono ?_; rintro e w1 ⟨A, c, rfl, hcl, hb1⟩) | (go_at_call 87; refine (HM.out A c _ (hcl.cells.below ((Below.refl _ _).alloc (Nat.le_refl _) _))).mono ?_; rintro e w2 ⟨rfl, hb2⟩))
        go_ret
        exact ⟨rfl, andThen (below_past_alloc hb1) hb2⟩
end Go.Proofs.Ytgbihdlahghonaa
/- The walks over package page and its reference: the reference's SetLsn, SetLink. -/
namespace Go.Proofs.Ytgbihdlahghonaa
open Go.RowKit

set_option maxRecDepth 100000 in
set_option maxHeartbeats 1000000 in
theorem rsetlsn_any (p : ByteArray) (n : Int) (hm : p.size ≤ 140737488355328) (w : World) :
    Calls Try.prog 40 #[.string p, .int .i64 n] w fun e w' => e = .returned (.string (lsnB p n)) ∧ Below w.heap.size w w' := by
  have HT := Lib.hid (fun W => rparts_leaf p hm W)
  have hfine := Pg.leafOf_fine p.data.toList
  cases hb : isPg p with
  | false =>
    rw [show lsnB p n = ⟨#[]⟩ from if_pos (.inl hb)]
    rw [hb] at HT
    generalize leafP p = x at HT
    clear hfine
    go_enter Try.func40, Try.ntmps40
    go_wp2_with (go_at_call 78; refine (HT.out _).mono ?_; rintro e w1 ⟨y, A, c, rfl, hcl, hb1⟩)
    go_ret
    exact ⟨rfl, below_past_alloc hb1⟩
  | true =>
    rw [hb] at HT
    by_cases h1 : n < 0
    · rw [show lsnB p n = ⟨#[]⟩ from if_pos (.inr (.inl h1))]
      generalize leafP p = x at HT
      clear hfine
      go_enter Try.func40, Try.ntmps40
      go_wp2_with (go_at_call 78; refine (HT.out _).mono ?_; rintro e w1 ⟨y, A, c, rfl, hcl, hb1⟩)
      go_ret
      exact ⟨rfl, below_past_alloc hb1⟩
    · by_cases h2 : 281474976710656 ≤ n
      · rw [show lsnB p n = ⟨#[]⟩ from if_pos (.inr (.inr h2))]
        generalize leafP p = x at HT
        clear hfine
        go_enter Try.func40, Try.ntmps40
        go_wp2_with (go_at_call 78; refine (HT.out _).mono ?_; rintro e w1 ⟨y, A, c, rfl, hcl, hb1⟩)
        go_ret
        exact ⟨rfl, below_past_alloc hb1⟩
      · have hnn : ((n.toNat : Nat) : Int) = n := by omega
        have hk : n.toNat < 281474976710656 := by omega
        rw [show lsnB p n = ⟨(Pg.layL ⟨n.toNat, (leafP p).kind, (leafP p).link, (leafP p).recs⟩).toArray⟩ by unfold lsnB; rw [if_neg (by rw [hb]; simp; omega)]]
        have h3 : (0 : Int) ≤ n := by omega
        have h4 : n < 281474976710656 := by omega
        clear h1 h2
        change Pg.Fine (leafP p) at hfine
        generalize leafP p = x at HT hfine ⊢
        have HM := Lib.hid (fun A c W hW => rlay_any ⟨n.toNat, x.kind, x.link, x.recs⟩ A c ⟨hk, hfine.small.2.1, hfine.small.2.2⟩ (by have := hfine.sizeN; show Pg.sizeN x.recs ≤ _; omega) W hW)
        clear hfine hk hb
        generalize (⟨(Pg.layL ⟨n.toNat, x.kind, x.link, x.recs⟩).toArray⟩ : ByteArray) = q at HM ⊢
        simp only [hnn] at HM
        clear hnn
        go_enter Try.func40, Try.ntmps40
        go_wp2_with (first | (go_at_call 78; refine (HT.out _).mono ?_; rintro e w1 ⟨y, A, c, rfl, hcl, hb1⟩; obtain ⟨hy, hco⟩ := hcl rfl; clear hcl; subst hy) | (go_at_call 88; refine (HM.out _ _ _ ((hco.cells).below ((Below.refl _ _).alloc (Nat.le_refl _) _))).mono ?_; rintro e w2 ⟨rfl, hb2⟩))
        go_ret
        exact ⟨rfl, andThen (below_past_alloc hb1) hb2⟩
set_option maxRecDepth 100000 in
set_option maxHeartbeats 1000000 in
theorem rsetlink_any (p : ByteArray) (n : Int) (hm : p.size ≤ 140737488355328) (w : World) :
    Calls Try.prog 42 #[.string p, .int .i64 n] w fun e w' => e = .returned (.string (linkB p n)) ∧ Below w.heap.size w w' := by
  have HT := Lib.hid (fun W => rparts_leaf p hm W)
  have hfine := Pg.leafOf_fine p.data.toList
  cases hb : isPg p with
  | false =>
    rw [show linkB p n = ⟨#[]⟩ from if_pos (.inl hb)]
    rw [hb] at HT
    generalize leafP p = x at HT
    clear hfine
    go_enter Try.func42, Try.ntmps42
    go_wp2_with (go_at_call 78; refine (HT.out _).mono ?_; rintro e w1 ⟨y, A, c, rfl, hcl, hb1⟩)
    go_ret
    exact ⟨rfl, below_past_alloc hb1⟩
  | true =>
    rw [hb] at HT
    by_cases h1 : n < 0
    · rw [show linkB p n = ⟨#[]⟩ from if_pos (.inr (.inl h1))]
      generalize leafP p = x at HT
      clear hfine
      go_enter Try.func42, Try.ntmps42
      go_wp2_with (go_at_call 78; refine (HT.out _).mono ?_; rintro e w1 ⟨y, A, c, rfl, hcl, hb1⟩)
      go_ret
      exact ⟨rfl, below_past_alloc hb1⟩
    · by_cases h2 : 16777216 ≤ n
      · rw [show linkB p n = ⟨#[]⟩ from if_pos (.inr (.inr h2))]
        generalize leafP p = x at HT
        clear hfine
        go_enter Try.func42, Try.ntmps42
        go_wp2_with (go_at_call 78; refine (HT.out _).mono ?_; rintro e w1 ⟨y, A, c, rfl, hcl, hb1⟩)
        go_ret
        exact ⟨rfl, below_past_alloc hb1⟩
      · have hnn : ((n.toNat : Nat) : Int) = n := by omega
        have hk : n.toNat < 16777216 := by omega
        rw [show linkB p n = ⟨(Pg.layL ⟨(leafP p).lsn, (leafP p).kind, n.toNat, (leafP p).recs⟩).toArray⟩ by unfold linkB; rw [if_neg (by rw [hb]; simp; omega)]]
        have h3 : (0 : Int) ≤ n := by omega
        have h4 : n < 16777216 := by omega
        clear h1 h2
        change Pg.Fine (leafP p) at hfine
        generalize leafP p = x at HT hfine ⊢
        have HM := Lib.hid (fun A c W hW => rlay_any ⟨x.lsn, x.kind, n.toNat, x.recs⟩ A c ⟨hfine.small.1, hfine.small.2.1, hk⟩ (by have := hfine.sizeN; show Pg.sizeN x.recs ≤ _; omega) W hW)
        clear hfine hk hb
        generalize (⟨(Pg.layL ⟨x.lsn, x.kind, n.toNat, x.recs⟩).toArray⟩ : ByteArray) = q at HM ⊢
        simp only [hnn] at HM
        clear hnn
        go_enter Try.func42, Try.ntmps42
        go_wp2_with (first | (go_at_call 78; refine (HT.out _).mono ?_; rintro e w1 ⟨y, A, c, rfl, hcl, hb1⟩; obtain ⟨hy, hco⟩ := hcl rfl; clear hcl; subst hy) | (go_at_call 88; refine (HM.out _ _ _ ((hco.cells).below ((Below.refl _ _).alloc (Nat.le_refl _) _))).mono ?_; rintro e w2 ⟨rfl, hb2⟩))
        go_ret
        exact ⟨rfl, andThen (below_past_alloc hb1) hb2⟩
end Go.Proofs.Ytgbihdlahghonaa
/- The walks over package page and its reference: Seal, Sealed. -/
namespace Go.Proofs.Ytgbihdlahghonaa
open Go.RowKit

/-- A text behind its sum. -/
def sealT (t : ByteArray) : ByteArray := Oct.putB (Oct.sumN t.data.toList : Nat) 4 ++ t
/-- A page with its sum; empty: it is none. -/
def sealB (p : ByteArray) : ByteArray := if isPg p then sealT (p.extract 4 512) else ⟨#[]⟩

theorem isPg_size {p : ByteArray} (h : isPg p = true) : p.size = 512 := by
  unfold isPg at h
  cases hr : Pg.right p.data.toList with
  | none => rw [hr] at h; cases h
  | some x =>
    have := (Pg.right_fine hr).2
    have h9 : p.data.toList.length = p.size := (by simp)
    omega

set_option maxRecDepth 100000 in
set_option maxHeartbeats 1000000 in
theorem oseal_any (t : ByteArray) (hm : t.size ≤ 1048576) (w : World) :
    Calls Try.prog 81 #[.string t] w fun e w' => e = .returned (.string (sealT t)) ∧ Below w.heap.size w w' := by
  have HS := Lib.hid (fun W => sum_any t (by omega) W)
  unfold sealT
  generalize Oct.sumN t.data.toList = n at HS ⊢
  have hz : (Oct.putB (n : Int) 4).size = 4 := Oct.putB_size _ 4 (by omega)
  have HP := Lib.hid (fun W => put_any (n : Int) 4 (by omega) (by omega) W)
  generalize Oct.putB (n : Int) 4 = q at HP hz ⊢
  have hadd : ∀ W : World, (Op.stringOp .add q t).run Try.prog W = .ok (.string (q ++ t)) W := fun W => run_string_add_sum W _ _ (by omega)
  go_enter Try.func81, Try.ntmps81
  go_wp2_with (first | (go_at_call 110; refine (HS.out _).mono ?_; rintro e w1 ⟨rfl, rfl⟩) | (go_at_call 106; refine (HP.out _).mono ?_; rintro e w2 ⟨rfl, hb⟩))
  go_ret
  exact ⟨rfl, hb⟩

set_option maxRecDepth 100000 in
set_option maxHeartbeats 1000000 in
theorem seal_any (p : ByteArray) (hm : p.size ≤ 140737488355328) (w : World) :
    Calls Try.prog 33 #[.string p] w fun e w' => e = .returned (.string (sealB p)) ∧ Below w.heap.size w w' := by
  have HT := Lib.hid (fun W => right_any p hm W)
  unfold sealB
  cases hb : isPg p with
  | false =>
    rw [hb] at HT
    clear hb
    go_enter Try.func33, Try.ntmps33
    go_wp2_with (go_at_call 17; refine (HT.out _).mono ?_; rintro e w1 ⟨rfl, hb1⟩)
    go_ret
    exact ⟨rfl, hb1⟩
  | true =>
    have h512 := isPg_size hb
    have HS := Lib.hid (fun W => oseal_any (p.extract 4 512) (by simp; omega) W)
    rw [hb] at HT
    clear hb
    go_enter Try.func33, Try.ntmps33
    go_wp2_with (first | (go_at_call 17; refine (HT.out _).mono ?_; rintro e w1 ⟨rfl, hb1⟩) | (go_at_call 81; refine (HS.out _).mono ?_; rintro e w2 ⟨rfl, hb2⟩))
    go_ret
    exact ⟨rfl, andThen hb1 hb2⟩
end Go.Proofs.Ytgbihdlahghonaa
/- The walks over package page and its reference: the reference's Seal, and both Sealed. -/
namespace Go.Proofs.Ytgbihdlahghonaa
open Go.RowKit

/-- Is it a page that has its sum? -/
def sealedP (p : ByteArray) : Bool := isPg p && decide (sealT (p.extract 4 512) = p)

theorem str_eq (a b : ByteArray) : (a.toList == b.toList) = decide (a = b) := by
  rw [ByteArray.toList_eq, ByteArray.toList_eq, Bool.beq_eq_decide_eq]
  by_cases h : a = b
  · simp [h]
  · have h1 : a.data.toList ≠ b.data.toList := fun e => h (ByteArray.ext (Array.toList_inj.1 e))
    simp [h, h1]

set_option maxRecDepth 100000 in
set_option maxHeartbeats 1000000 in
theorem sealed_any (p : ByteArray) (hm : p.size ≤ 140737488355328) (w : World) :
    Calls Try.prog 31 #[.string p] w fun e w' => e = .returned (.bool (sealedP p)) ∧ Below w.heap.size w w' := by
  have HT := Lib.hid (fun W => right_any p hm W)
  unfold sealedP
  cases hb : isPg p with
  | false =>
    rw [hb] at HT
    clear hb
    go_enter Try.func31, Try.ntmps31
    go_wp2_with (go_at_call 17; refine (HT.out _).mono ?_; rintro e w1 ⟨rfl, hb1⟩)
    go_ret
    exact ⟨rfl, hb1⟩
  | true =>
    have h512 := isPg_size hb
    have HS := Lib.hid (fun W => oseal_any (p.extract 4 512) (by simp; omega) W)
    have hc := str_eq (sealT (p.extract 4 512)) p
    generalize sealT (p.extract 4 512) = q at HS hc ⊢
    generalize decide (q = p) = b at hc ⊢
    rw [hb] at HT
    clear hb
    go_enter Try.func31, Try.ntmps31
    go_wp2_with (first | (go_at_call 17; refine (HT.out _).mono ?_; rintro e w1 ⟨rfl, hb1⟩) | (go_at_call 81; refine (HS.out _).mono ?_; rintro e w2 ⟨rfl, hb2⟩))
    go_ret
    exact ⟨by simp, andThen hb1 hb2⟩

theorem rput_keeps (n size : Int) (h0 : 0 ≤ size) (h8 : size ≤ 8) (w0 u : World) (h : Below w0.heap.size w0 u) :
    Calls Try.prog 82 #[.int .i64 n, .int .i64 size] u fun e w' => e = .returned (.string (Oct.putB n size)) ∧ Below w0.heap.size w0 w' :=
  (rput_any n size h0 h8 u).mono fun _ _ ⟨h1, h2⟩ => ⟨h1, andThen h h2⟩
theorem rsum_keeps (s : ByteArray) (hm : s.size ≤ 281474976710656) (w0 u : World) (h : Below w0.heap.size w0 u) :
    Calls Try.prog 83 #[.string s] u fun e w' => e = .returned (.int .i64 (Oct.sumN s.data.toList)) ∧ Below w0.heap.size w0 w' :=
  (rsum_any s hm u).mono fun _ _ ⟨h1, h2⟩ => ⟨h1, h2 ▸ h⟩
set_option maxRecDepth 100000 in
set_option maxHeartbeats 1000000 in
theorem rseal_any (p : ByteArray) (hm : p.size ≤ 140737488355328) (w : World) :
    Calls Try.prog 34 #[.string p] w fun e w' => e = .returned (.string (sealB p)) ∧ Below w.heap.size w w' := by
  have HT := Lib.hid (fun W => rright_any p hm W)
  unfold sealB
  cases hb : isPg p with
  | false =>
    rw [hb] at HT
    clear hb
    go_enter Try.func34, Try.ntmps34
    go_wp2_with (go_at_call 18; refine (HT.out _).mono ?_; rintro e w1 ⟨rfl, hb1⟩)
    go_ret
    exact ⟨rfl, hb1⟩
  | true =>
    have h512 := isPg_size hb
    have h4 : 4 ≤ p.size := by omega
    have HS := Lib.hid (fun w0 W hW => rsum_keeps (p.extract 4 512) (by simp; omega) w0 W hW)
    have hz4 : (p.extract 4 p.size).size = 508 := by simp; omega
    have hz5 : (p.extract 4 512).size = 508 := by simp; omega
    unfold sealT
    generalize Oct.sumN (p.extract 4 512).data.toList = n at HS ⊢
    have hz : (Oct.putB (n : Int) 4).size = 4 := Oct.putB_size _ 4 (by omega)
    have HP := Lib.hid (fun w0 W hW => rput_keeps (n : Int) 4 (by omega) (by omega) w0 W hW)
    generalize Oct.putB (n : Int) 4 = q at HP hz ⊢
    rw [hb] at HT
    clear hb
    go_enter Try.func34, Try.ntmps34
    go_upto_region 3 with (first | (go_at_call 18; refine (HT.out _).mono ?_; rintro e w1 ⟨rfl, hb1⟩))
    go_region_held3 (fun we => Below w1.heap.size w1 we) (first | assumption | exact (Below.refl _ _).drew) (first | (go_at_call 83; refine (HS.out _ _ (by assumption)).mono ?_; rintro e w2 ⟨rfl, hS⟩) | (go_at_call 82; refine (HP.out _ _ (by assumption)).mono ?_; rintro e w3 ⟨rfl, hS⟩))
    go_wp2_with fail
    go_ret
    exact ⟨rfl, andThen hb1 hS⟩

set_option maxRecDepth 100000 in
set_option maxHeartbeats 1000000 in
theorem rsealed_any (p : ByteArray) (hm : p.size ≤ 140737488355328) (w : World) :
    Calls Try.prog 32 #[.string p] w fun e w' => e = .returned (.bool (sealedP p)) ∧ Below w.heap.size w w' := by
  have HT := Lib.hid (fun W => rright_any p hm W)
  have HS := Lib.hid (fun W => rseal_any p hm W)
  unfold sealedP
  unfold sealB at HS
  cases hb : isPg p with
  | false =>
    rw [hb] at HT
    clear hb
    go_enter Try.func32, Try.ntmps32
    go_wp2_with (go_at_call 18; refine (HT.out _).mono ?_; rintro e w1 ⟨rfl, hb1⟩)
    go_ret
    exact ⟨rfl, hb1⟩
  | true =>
    rw [hb, if_pos rfl] at HS
    have hc := str_eq (sealT (p.extract 4 512)) p
    generalize sealT (p.extract 4 512) = q at HS hc ⊢
    generalize decide (q = p) = b at hc ⊢
    rw [hb] at HT
    clear hb
    go_enter Try.func32, Try.ntmps32
    go_wp2_with (first | (go_at_call 18; refine (HT.out _).mono ?_; rintro e w1 ⟨rfl, hb1⟩) | (go_at_call 34; refine (HS.out _).mono ?_; rintro e w2 ⟨rfl, hb2⟩))
    go_ret
    exact ⟨by simp, andThen hb1 hb2⟩
end Go.Proofs.Ytgbihdlahghonaa
/- The walks over package page and its reference: Room. -/
namespace Go.Proofs.Ytgbihdlahghonaa
open Go.RowKit

/-- The longest record that comes into the lowest free slot. -/
def roomI (rs : List ByteArray) : Int := max 0 (min (493 - 4 * (max (rs.length : Int) ((Pg.freeN rs : Int) + 1)) - (Pg.sumSizes rs : Int)) 400)
def roomP (p : ByteArray) : Int := if isPg p then roomI (leafP p).recs else 0

/-- A box that holds a page's parts, while nothing but new blocks is made. -/
theorem held_of (w1 : World) (x : Pg.Leaf) (A : Option Addr) (c : Nat) (T : TypeId) (hcl : Cells w1 A c x.recs) :
    Held w1.heap.size x A c (w1.alloc (.cells #[.int .i64 x.lsn, .int .i64 x.kind, .int .i64 x.link, .slice A x.recs.length c] T)) (w1.alloc (.cells #[.int .i64 x.lsn, .int .i64 x.kind, .int .i64 x.link, .slice A x.recs.length c] T)) := by
  have hh := heap_alloc_new w1 (.cells #[.int .i64 x.lsn, .int .i64 x.kind, .int .i64 x.link, .slice A x.recs.length c] T)
  refine ⟨?_, ?_, ?_, ?_, hcl.below ((Below.refl _ _).alloc (Nat.le_refl _) _), by simp, Below.refl _ _⟩
  · rw [cell_of_row _ _ _ _ _ _ hh]; rfl
  · rw [cell_of_row _ _ _ _ _ _ hh]; rfl
  · rw [cell_of_row _ _ _ _ _ _ hh]; rfl
  · rw [cell_of_row _ _ _ _ _ _ hh]; rfl
theorem free_keeps (x : Pg.Leaf) (A : Option Addr) (c : Nat) (hl : x.recs.length ≤ 1099511627776) (X : Nat) (w0 u : World) (h : Held X x A c w0 u) :
    Calls Try.prog 79 #[leafV x A c] u fun e w' => e = .returned (.int .i64 (Pg.freeN x.recs : Nat)) ∧ Held X x A c w0 w' :=
  (free_any_leaf x A c hl u h.2.2.2.2.1).mono fun _ _ ⟨h1, h2⟩ => ⟨h1, h.step h2⟩

set_option maxRecDepth 100000 in
set_option maxHeartbeats 1000000 in
theorem room_any (p : ByteArray) (hm : p.size ≤ 140737488355328) (w : World) :
    Calls Try.prog 29 #[.string p] w fun e w' => e = .returned (.int .i64 (roomP p)) ∧ Below w.heap.size w w' := by
  have HT := Lib.hid (fun W => take_leaf p hm W)
  have hfine := Pg.leafOf_fine p.data.toList
  change Pg.Fine (leafP p) at hfine
  unfold roomP
  cases hb : isPg p with
  | false =>
    rw [hb] at HT
    generalize leafP p = x at HT
    clear hb hfine
    go_enter Try.func29, Try.ntmps29
    go_wp2_with (go_at_call 75; refine (HT.out _).mono ?_; rintro e w1 ⟨A, c, rfl, hcl, hb1⟩)
    go_ret
    exact ⟨rfl, below_past_alloc hb1⟩
  | true =>
    rw [hb] at HT
    generalize leafP p = x at HT hfine ⊢
    clear hb
    rw [if_pos rfl]
    have hsz : Pg.sizeN x.recs ≤ 60000 := hfine.sizeN
    have hlen : x.recs.length ≤ 123 := hfine.len
    have hfr : Pg.freeN x.recs ≤ x.recs.length := Pg.freeN_le _
    have HR := Lib.hid (show Pg.sizeN x.recs = 19 + 4 * x.recs.length + Pg.sumSizes x.recs from rfl)
    have HSZ := Lib.hid (fun A c W hW => size_any A c x.recs (by omega) W hW)
    have HF := Lib.hid (fun A c X w0 W hW => free_keeps x A c (by omega) X w0 W hW)
    obtain ⟨S, hS⟩ : ∃ S, S = Pg.sizeN x.recs := ⟨_, rfl⟩
    rw [← hS] at HSZ hsz HR
    obtain ⟨f, hf⟩ : ∃ f, f = Pg.freeN x.recs := ⟨_, rfl⟩
    rw [← hf] at HF hfr
    unfold roomI
    rw [← hf]
    clear hS hf hfine
    go_enter Try.func29, Try.ntmps29
    go_upto_region 5 with (first | (go_at_call 75; refine (HT.out _).mono ?_; rintro e w1 ⟨A, c, rfl, hcl, hb1⟩) | (go_at_call 80; refine (HSZ.out A c _ (hcl.cells.below ((Below.refl _ _).alloc (Nat.le_refl _) _))).mono ?_; rintro e w2 ⟨rfl, rfl⟩))
    have HH := Lib.hid (held_of w1 x A c 67 hcl.cells)
    go_cut [22] (fun s we => s = .bool ((f : Int) == x.recs.length) ∧ Held w1.heap.size x A c (w1.alloc (.cells #[.int .i64 x.lsn, .int .i64 x.kind, .int .i64 x.link, .slice A x.recs.length c] 67)) we)
    case first =>
      go_region_held3 (fun we => Held w1.heap.size x A c (w1.alloc (.cells #[.int .i64 x.lsn, .int .i64 x.kind, .int .i64 x.link, .slice A x.recs.length c] 67)) we) (first | assumption | exact HH.out.drew) (first | (go_at_call 79; refine (HF.out _ _ _ _ _ (by assumption)).mono ?_; rintro e w3 ⟨rfl, hS⟩))
      go_wp2_with fail
      go_meet
      case rel => exact ⟨rfl, hS⟩
    case rest =>
      obtain ⟨rfl, hS⟩ := hcut
      go_wp2_with fail
      all_goals
        rename_i hq
        go_ret
        refine ⟨ret_int ?_, ?_⟩
        · have := HR.out
          simp only [beq_iff_eq, beq_eq_false_iff_ne, ne_eq] at hq
          omega
        · exact andThen (below_past_alloc hb1) hS.2.2.2.2.2.2

theorem rfree_keeps (p : ByteArray) (hm : p.size ≤ 140737488355328) (x : Pg.Leaf) (A : Option Addr) (c : Nat) (X : Nat) (w0 u : World) (h : Held X x A c w0 u) :
    Calls Try.prog 28 #[.string p] u fun e w' => e = .returned (.int .i64 (Pg.freeN (leafP p).recs : Nat)) ∧ Held X x A c w0 w' :=
  (rfree_any p hm u).mono fun _ _ ⟨h1, h2⟩ => ⟨h1, h.step h2⟩
set_option maxRecDepth 100000 in
set_option maxHeartbeats 1000000 in
theorem rroom_any (p : ByteArray) (hm : p.size ≤ 140737488355328) (w : World) :
    Calls Try.prog 30 #[.string p] w fun e w' => e = .returned (.int .i64 (roomP p)) ∧ Below w.heap.size w w' := by
  have HT := Lib.hid (fun W => rparts_leaf p hm W)
  have hfine := Pg.leafOf_fine p.data.toList
  change Pg.Fine (leafP p) at hfine
  unfold roomP
  cases hb : isPg p with
  | false =>
    rw [hb] at HT
    generalize leafP p = x at HT
    clear hb hfine
    go_enter Try.func30, Try.ntmps30
    go_wp2_with (go_at_call 78; refine (HT.out _).mono ?_; rintro e w1 ⟨y, A, c, rfl, hcl, hb1⟩)
    go_ret
    exact ⟨rfl, below_past_alloc hb1⟩
  | true =>
    rw [hb] at HT
    have HF := Lib.hid (fun x A c X w0 W hW => rfree_keeps p hm x A c X w0 W hW)
    generalize leafP p = x at HT HF hfine ⊢
    clear hb
    rw [if_pos rfl]
    have hsum : Pg.sumSizes x.recs ≤ 49200 := hfine.sum
    have hlen : x.recs.length ≤ 123 := hfine.len
    have hfr : Pg.freeN x.recs ≤ x.recs.length := Pg.freeN_le _
    obtain ⟨f, hf⟩ : ∃ f, f = Pg.freeN x.recs := ⟨_, rfl⟩
    rw [← hf] at HF hfr
    unfold roomI
    rw [← hf]
    clear hf hfine
    go_enter Try.func30, Try.ntmps30
    go_upto_region 4 with (first | (go_at_call 78; refine (HT.out _).mono ?_; rintro e w1 ⟨y, A, c, rfl, hcl, hb1⟩; obtain ⟨hy, hco⟩ := hcl rfl; clear hcl; subst hy))
    have HH := Lib.hid (held_of w1 y A c 71 hco.cells)
    go_cut [5] (fun s we => s = .int .i64 (max (y.recs.length : Int) ((f : Int) + 1)) ∧ Held w1.heap.size y A c (w1.alloc (.cells #[.int .i64 y.lsn, .int .i64 y.kind, .int .i64 y.link, .slice A y.recs.length c] 71)) we)
    case first =>
      go_region_held3 (fun we => Held w1.heap.size y A c (w1.alloc (.cells #[.int .i64 y.lsn, .int .i64 y.kind, .int .i64 y.link, .slice A y.recs.length c] 71)) we) (first | assumption | exact HH.out.drew) (first | (go_at_call 28; refine (HF.out _ _ _ _ _ _ (by assumption)).mono ?_; rintro e w3 ⟨rfl, hS⟩))
      go_wp2_with fail
      go_meet
      case rel => exact ⟨congrArg (fun z => Value.int IntKind.i64 (max (y.recs.length : Int) z)) (IntWalk.i64_in _ (by omega)), hS⟩
    case rest =>
      obtain ⟨rfl, hS⟩ := hcut
      obtain ⟨c0, c1, c2, c3, hC, hX, hbS⟩ := hS
      have HC := Lib.hid hC
      clear hC
      obtain ⟨m, hm⟩ : ∃ m : Int, m = max (y.recs.length : Int) ((f : Int) + 1) := ⟨_, rfl⟩
      rw [← hm]
      have hm1 : 0 ≤ m := by omega
      have hm2 : m ≤ 124 := by omega
      have HM := Lib.hid hm
      clear hm
      go_wp2_with fail
      go_loop [6, 7] (fun n i => ∃ k : Nat, k ≤ y.recs.length ∧ i = .int .i64 k ∧ n = .int .i64 (493 - 4 * m - (Pg.sumSizes (y.recs.take k) : Int))) (fun _ i => y.recs.length - (intOf i).toNat)
      case atStart => exact ⟨0, Nat.zero_le _, rfl, by simp [Pg.sumSizes]⟩
      case round =>
        obtain ⟨k, hk, rfl, rfl⟩ := hrel
        have hst := Pg.sumSizes_take_le y.recs k
        by_cases hlt : k < y.recs.length
        · obtain ⟨b, off, rfl, hc, hbl, hcell⟩ := HC.out.at_ hlt
          have hsn := Pg.sumSizes_snoc y.recs k hlt
          have hst2 := Pg.sumSizes_take_le y.recs (k + 1)
          have hrs : y.recs[k].size ≤ 49200 := by omega
          have HSN := Lib.hid hsn
          clear hsn
          generalize y.recs[k] = r at hcell HSN hrs
          go_wp2_with fail
          go_round
          case rel => exact ⟨k + 1, by omega, by go_num, by rw [HSN.out]; exact congrArg (Value.int IntKind.i64) (by omega)⟩
          case measure => simp [intOf]; omega
        · obtain rfl : k = y.recs.length := by omega
          have HV := Lib.hid (List.take_length (l := y.recs))
          go_wp2_with fail
          go_ret
          refine ⟨ret_int ?_, andThen (below_past_alloc hb1) hbS⟩
          rw [← HM.out]
end Go.Proofs.Ytgbihdlahghonaa
/- The plain mathematics of a tree's entries: their order, their bytes. -/
namespace Nd
open Go.Lib

structure Entry where
  key : ByteArray
  page : Int
  slot : Int
def zero : Entry := ⟨⟨#[]⟩, 0, 0⟩
theorem Entry.ext' {a b : Entry} (h1 : a.key = b.key) (h2 : a.page = b.page) (h3 : a.slot = b.slot) : a = b := by
  cases a; cases b; simp_all

/-- The order of two texts is one of three numbers. -/
theorem cb_range (a : List UInt8) : ∀ b : List UInt8, compareBytes a b = -1 ∨ compareBytes a b = 0 ∨ compareBytes a b = 1 := by
  induction a with
  | nil => intro b; cases b <;> simp [compareBytes]
  | cons x a ih =>
    intro b
    cases b with
    | nil => simp [compareBytes]
    | cons y b =>
      unfold compareBytes
      split
      · simp
      · split
        · simp
        · exact ih b
theorem cb_eq (a : List UInt8) : ∀ b : List UInt8, compareBytes a b = 0 ↔ a = b := by
  induction a with
  | nil => intro b; cases b <;> simp [compareBytes]
  | cons x a ih =>
    intro b
    cases b with
    | nil => simp [compareBytes]
    | cons y b =>
      unfold compareBytes
      split
      · rename_i h
        simp
        intro e; subst e; exact absurd h (by simp)
      · split
        · rename_i h
          simp
          intro e; subst e; exact absurd h (by simp)
        · rename_i h1 h2
          rw [ih b]
          have : x = y := by
            apply UInt8.toNat_inj.1
            simp only [UInt8.lt_iff_toNat_lt] at h1 h2
            omega
          simp [this]
theorem cb_neg (a : List UInt8) : ∀ b : List UInt8, compareBytes b a = - compareBytes a b := by
  induction a with
  | nil => intro b; cases b <;> simp [compareBytes]
  | cons x a ih =>
    intro b
    cases b with
    | nil => simp [compareBytes]
    | cons y b =>
      unfold compareBytes
      by_cases h1 : x < y
      · have h2 : ¬ y < x := by simp only [UInt8.lt_iff_toNat_lt] at h1 ⊢; omega
        rw [if_pos h1, if_neg h2, if_pos h1]; rfl
      · by_cases h2 : y < x
        · rw [if_pos h2, if_neg h1, if_pos h2]
        · rw [if_neg h2, if_neg h1, if_neg h1, if_neg h2]; exact ih b
theorem cb_trans (a : List UInt8) : ∀ b c : List UInt8, compareBytes a b ≤ 0 → compareBytes b c ≤ 0 → compareBytes a c ≤ 0 ∧ (compareBytes a b < 0 ∨ compareBytes b c < 0 → compareBytes a c < 0) := by
  induction a with
  | nil =>
    intro b c h1 h2
    cases b <;> cases c <;> simp_all [compareBytes]
  | cons x a ih =>
    intro b c h1 h2
    cases b with
    | nil => simp [compareBytes] at h1
    | cons y b =>
      cases c with
      | nil => simp [compareBytes] at h2
      | cons z c =>
        unfold compareBytes at h1 h2 ⊢
        simp only [UInt8.lt_iff_toNat_lt] at h1 h2 ⊢
        by_cases hxy : x.toNat < y.toNat
        · rw [if_pos hxy] at h1 ⊢
          by_cases hyz : y.toNat < z.toNat
          · rw [if_pos (show x.toNat < z.toNat by omega)]; omega
          · rw [if_neg hyz] at h2
            by_cases hzy : z.toNat < y.toNat
            · rw [if_pos hzy] at h2; omega
            · rw [if_pos (show x.toNat < z.toNat by omega)]; omega
        · rw [if_neg hxy] at h1 ⊢
          by_cases hyx : y.toNat < x.toNat
          · rw [if_pos hyx] at h1; omega
          · rw [if_neg hyx] at h1 ⊢
            by_cases hyz : y.toNat < z.toNat
            · rw [if_pos hyz, if_pos (show x.toNat < z.toNat by omega)]; omega
            · rw [if_neg hyz] at h2 ⊢
              by_cases hzy : z.toNat < y.toNat
              · rw [if_pos hzy] at h2; omega
              · rw [if_neg hzy] at h2 ⊢
                rw [if_neg (show ¬ x.toNat < z.toNat by omega), if_neg (show ¬ z.toNat < x.toNat by omega)]
                exact ih b c h1 h2

/-- The order of two entries. -/
def ordE (a b : Entry) : Int :=
  if compareBytes a.key.data.toList b.key.data.toList ≠ 0 then compareBytes a.key.data.toList b.key.data.toList
  else if compareInt a.page b.page ≠ 0 then compareInt a.page b.page else compareInt a.slot b.slot
def lessE (a b : Entry) : Bool := decide (ordE a b < 0)
theorem ci_eq (x y : Int) : compareInt x y = 0 ↔ x = y := by
  unfold compareInt
  split
  · omega
  · split <;> omega
theorem ci_neg (x y : Int) : compareInt y x = - compareInt x y := by
  unfold compareInt
  by_cases h : x < y
  · rw [if_neg (by omega), if_pos (by omega), if_pos h]; rfl
  · by_cases h2 : y < x
    · rw [if_pos h2, if_neg h, if_pos (by omega)]
    · rw [if_neg h2, if_neg (by omega), if_neg h, if_neg (by omega)]; rfl
theorem ci_lt (x y : Int) : compareInt x y < 0 ↔ x < y := by
  unfold compareInt
  split
  · omega
  · split <;> omega
theorem ci_le (x y : Int) : compareInt x y ≤ 0 ↔ x ≤ y := by
  unfold compareInt
  split
  · omega
  · split <;> omega
theorem ord_eq (a b : Entry) : ordE a b = 0 ↔ a = b := by
  unfold ordE
  constructor
  · intro h
    split at h
    · rename_i h1; exact absurd h h1
    · rename_i h1
      split at h
      · rename_i h2; exact absurd h h2
      · rename_i h2
        have e1 := (cb_eq _ _).1 (Decidable.not_not.1 h1)
        exact Entry.ext' (ByteArray.ext (Array.toList_inj.1 e1)) ((ci_eq _ _).1 (Decidable.not_not.1 h2)) ((ci_eq _ _).1 h)
  · intro h
    subst h
    rw [if_neg (by rw [(cb_eq _ _).2 rfl]; simp), if_neg (by rw [(ci_eq _ _).2 rfl]; simp), (ci_eq _ _).2 rfl]
theorem ord_neg (a b : Entry) : ordE b a = - ordE a b := by
  unfold ordE
  rw [cb_neg a.key.data.toList b.key.data.toList, ci_neg a.page b.page, ci_neg a.slot b.slot]
  by_cases h1 : compareBytes a.key.data.toList b.key.data.toList ≠ 0
  · rw [if_pos h1, if_pos (by omega)]
  · rw [if_neg h1, if_neg (by omega)]
    by_cases h2 : compareInt a.page b.page ≠ 0
    · rw [if_pos h2, if_pos (by omega)]
    · rw [if_neg h2, if_neg (by omega)]
theorem less_iff (a b : Entry) : lessE a b = true ↔ ordE a b < 0 := by unfold lessE; exact decide_eq_true_iff
theorem less_irrefl (a : Entry) : lessE a a = false := by
  unfold lessE
  rw [(ord_eq a a).2 rfl]; rfl
theorem less_asymm {a b : Entry} (h : lessE a b = true) : lessE b a = false := by
  rw [less_iff] at h
  unfold lessE
  apply decide_eq_false
  rw [ord_neg a b]; omega
theorem less_total {a b : Entry} (h : a ≠ b) : lessE a b = true ∨ lessE b a = true := by
  rw [less_iff, less_iff, ord_neg a b]
  have : ordE a b ≠ 0 := fun e => h ((ord_eq a b).1 e)
  omega
theorem less_trans {a b c : Entry} (h1 : lessE a b = true) (h2 : lessE b c = true) : lessE a c = true := by
  rw [less_iff] at h1 h2 ⊢
  unfold ordE at h1 h2 ⊢
  have k1 := cb_range a.key.data.toList b.key.data.toList
  have k2 := cb_range b.key.data.toList c.key.data.toList
  have ht := cb_trans a.key.data.toList b.key.data.toList c.key.data.toList
  by_cases x1 : compareBytes a.key.data.toList b.key.data.toList ≠ 0
  · rw [if_pos x1] at h1
    have x2 : compareBytes b.key.data.toList c.key.data.toList ≤ 0 := by
      by_cases y : compareBytes b.key.data.toList c.key.data.toList ≠ 0
      · rw [if_pos y] at h2; omega
      · omega
    have := (ht (by omega) x2).2 (.inl h1)
    rw [if_pos (by omega)]; exact this
  · rw [if_neg x1] at h1
    by_cases y : compareBytes b.key.data.toList c.key.data.toList ≠ 0
    · rw [if_pos y] at h2
      have := (ht (by omega) (by omega)).2 (.inr h2)
      rw [if_pos (by omega)]; exact this
    · rw [if_neg y] at h2
      have e1 := (cb_eq _ _).1 (Decidable.not_not.1 x1)
      have e2 := (cb_eq _ _).1 (Decidable.not_not.1 y)
      have e3 : compareBytes a.key.data.toList c.key.data.toList = 0 := (cb_eq _ _).2 (e1.trans e2)
      rw [if_neg (by omega)]
      by_cases p1 : compareInt a.page b.page ≠ 0
      · rw [if_pos p1] at h1
        rw [ci_lt] at h1
        by_cases p2 : compareInt b.page c.page ≠ 0
        · rw [if_pos p2, ci_lt] at h2
          have h3 : compareInt a.page c.page < 0 := (ci_lt _ _).2 (by omega)
          rw [if_pos (by omega)]; exact h3
        · have h4 := (ci_eq _ _).1 (Decidable.not_not.1 p2)
          have h3 : compareInt a.page c.page < 0 := (ci_lt _ _).2 (by omega)
          rw [if_pos (by omega)]; exact h3
      · rw [if_neg p1, ci_lt] at h1
        have h5 := (ci_eq _ _).1 (Decidable.not_not.1 p1)
        by_cases p2 : compareInt b.page c.page ≠ 0
        · rw [if_pos p2, ci_lt] at h2
          have h3 : compareInt a.page c.page < 0 := (ci_lt _ _).2 (by omega)
          rw [if_pos (by omega)]; exact h3
        · rw [if_neg p2, ci_lt] at h2
          have h4 := (ci_eq _ _).1 (Decidable.not_not.1 p2)
          rw [if_neg (by rw [(ci_eq _ _).2 (by omega)]; simp), ci_lt]; omega

/-- May an entry be? -/
def mayE (e : Entry) : Bool := decide (e.key.size ≤ 100 ∧ 0 ≤ e.page ∧ e.page < 16777216 ∧ 0 ≤ e.slot ∧ e.slot < 65536)
/-- An entry's bytes; none: it may not be. -/
def putE (e : Entry) : ByteArray := if mayE e then Oct.putB e.page 3 ++ Oct.putB e.slot 2 ++ e.key else ⟨#[]⟩
/-- The entry of bytes; none: they are none. -/
def getE (s : ByteArray) : Option Entry :=
  if s.size < 5 ∨ 105 < s.size then none else some ⟨s.extract 5 s.size, (Oct.getN s.data.toList 0 3 : Nat), (Oct.getN s.data.toList 3 2 : Nat)⟩
def putC (e : Entry) (n : Int) : ByteArray := if mayE e = true ∧ 0 ≤ n ∧ n < 16777216 then Oct.putB n 3 ++ putE e else ⟨#[]⟩
def getC (s : ByteArray) : Option (Entry × Int) :=
  if s.size < 3 then none else (getE (s.extract 3 s.size)).map fun e => (e, ((Oct.getN s.data.toList 0 3 : Nat) : Int))
end Nd
/- The walks over package node and its reference: may, the order of two entries. -/
namespace Go.Proofs.Ytgbihdlahghonaa
open Go.RowKit

/-- An entry, as a value. -/
abbrev entV (e : Nd.Entry) : Value := .agg #[.string e.key, .int .i64 e.page, .int .i64 e.slot]
set_option maxRecDepth 100000 in
set_option maxHeartbeats 2000000 in
theorem nmay_any (e : Nd.Entry) (w : World) :
    Calls Try.prog 105 #[entV e] w fun x w' => x = .returned (.bool (Nd.mayE e)) ∧ Below w.heap.size w w' := by
  obtain ⟨K, pg, sl⟩ := e
  by_cases h0 : (K.size : Int) ≤ 100
  rotate_left
  · have g0 : 100 < (K.size : Int) := by omega
    clear h0
    rw [show Nd.mayE ⟨K, pg, sl⟩ = false from decide_eq_false (by show ¬ (K.size ≤ 100 ∧ 0 ≤ pg ∧ pg < 16777216 ∧ 0 ≤ sl ∧ sl < 65536); omega)]
    go_enter Try.func105, Try.ntmps105
    go_wp2_with fail
    go_ret
    exact ⟨by simp [*], (Below.refl _ _).alloc (Nat.le_refl _) _⟩
  by_cases h1 : 0 ≤ pg
  rotate_left
  · have g1 : pg < 0 := by omega
    clear h1
    rw [show Nd.mayE ⟨K, pg, sl⟩ = false from decide_eq_false (by show ¬ (K.size ≤ 100 ∧ 0 ≤ pg ∧ pg < 16777216 ∧ 0 ≤ sl ∧ sl < 65536); omega)]
    go_enter Try.func105, Try.ntmps105
    go_wp2_with fail
    go_ret
    exact ⟨by simp [*], (Below.refl _ _).alloc (Nat.le_refl _) _⟩
  by_cases h2 : pg < 16777216
  rotate_left
  · have g2 : 16777216 ≤ pg := by omega
    clear h2
    rw [show Nd.mayE ⟨K, pg, sl⟩ = false from decide_eq_false (by show ¬ (K.size ≤ 100 ∧ 0 ≤ pg ∧ pg < 16777216 ∧ 0 ≤ sl ∧ sl < 65536); omega)]
    go_enter Try.func105, Try.ntmps105
    go_wp2_with fail
    go_ret
    exact ⟨by simp [*], (Below.refl _ _).alloc (Nat.le_refl _) _⟩
  by_cases h3 : 0 ≤ sl
  rotate_left
  · have g3 : sl < 0 := by omega
    clear h3
    rw [show Nd.mayE ⟨K, pg, sl⟩ = false from decide_eq_false (by show ¬ (K.size ≤ 100 ∧ 0 ≤ pg ∧ pg < 16777216 ∧ 0 ≤ sl ∧ sl < 65536); omega)]
    go_enter Try.func105, Try.ntmps105
    go_wp2_with fail
    go_ret
    exact ⟨by simp [*], (Below.refl _ _).alloc (Nat.le_refl _) _⟩
  by_cases h4 : sl < 65536
  rotate_left
  · have g4 : 65536 ≤ sl := by omega
    clear h4
    rw [show Nd.mayE ⟨K, pg, sl⟩ = false from decide_eq_false (by show ¬ (K.size ≤ 100 ∧ 0 ≤ pg ∧ pg < 16777216 ∧ 0 ≤ sl ∧ sl < 65536); omega)]
    go_enter Try.func105, Try.ntmps105
    go_wp2_with fail
    go_ret
    exact ⟨by simp [*], (Below.refl _ _).alloc (Nat.le_refl _) _⟩
  rw [show Nd.mayE ⟨K, pg, sl⟩ = true from decide_eq_true ⟨by show K.size ≤ 100; omega, by assumption, by assumption, by assumption, by assumption⟩]
  go_enter Try.func105, Try.ntmps105
  go_wp2_with fail
  go_ret
  exact ⟨by simp [*], (Below.refl _ _).alloc (Nat.le_refl _) _⟩
set_option maxRecDepth 100000 in
set_option maxHeartbeats 2000000 in
theorem rnmay_any (e : Nd.Entry) (w : World) :
    Calls Try.prog 107 #[entV e] w fun x w' => x = .returned (.bool (Nd.mayE e)) ∧ Below w.heap.size w w' := by
  obtain ⟨K, pg, sl⟩ := e
  by_cases h0 : (K.size : Int) ≤ 100
  rotate_left
  · have g0 : 100 < (K.size : Int) := by omega
    clear h0
    rw [show Nd.mayE ⟨K, pg, sl⟩ = false from decide_eq_false (by show ¬ (K.size ≤ 100 ∧ 0 ≤ pg ∧ pg < 16777216 ∧ 0 ≤ sl ∧ sl < 65536); omega)]
    go_enter Try.func107, Try.ntmps107
    go_wp2_with fail
    go_ret
    exact ⟨by simp [*], (Below.refl _ _).alloc (Nat.le_refl _) _⟩
  by_cases h1 : 0 ≤ pg
  rotate_left
  · have g1 : pg < 0 := by omega
    clear h1
    rw [show Nd.mayE ⟨K, pg, sl⟩ = false from decide_eq_false (by show ¬ (K.size ≤ 100 ∧ 0 ≤ pg ∧ pg < 16777216 ∧ 0 ≤ sl ∧ sl < 65536); omega)]
    go_enter Try.func107, Try.ntmps107
    go_wp2_with fail
    go_ret
    exact ⟨by simp [*], (Below.refl _ _).alloc (Nat.le_refl _) _⟩
  by_cases h2 : pg < 16777216
  rotate_left
  · have g2 : 16777216 ≤ pg := by omega
    clear h2
    rw [show Nd.mayE ⟨K, pg, sl⟩ = false from decide_eq_false (by show ¬ (K.size ≤ 100 ∧ 0 ≤ pg ∧ pg < 16777216 ∧ 0 ≤ sl ∧ sl < 65536); omega)]
    go_enter Try.func107, Try.ntmps107
    go_wp2_with fail
    go_ret
    exact ⟨by simp [*], (Below.refl _ _).alloc (Nat.le_refl _) _⟩
  by_cases h3 : 0 ≤ sl
  rotate_left
  · have g3 : sl < 0 := by omega
    clear h3
    rw [show Nd.mayE ⟨K, pg, sl⟩ = false from decide_eq_false (by show ¬ (K.size ≤ 100 ∧ 0 ≤ pg ∧ pg < 16777216 ∧ 0 ≤ sl ∧ sl < 65536); omega)]
    go_enter Try.func107, Try.ntmps107
    go_wp2_with fail
    go_ret
    exact ⟨by simp [*], (Below.refl _ _).alloc (Nat.le_refl _) _⟩
  by_cases h4 : sl < 65536
  rotate_left
  · have g4 : 65536 ≤ sl := by omega
    clear h4
    rw [show Nd.mayE ⟨K, pg, sl⟩ = false from decide_eq_false (by show ¬ (K.size ≤ 100 ∧ 0 ≤ pg ∧ pg < 16777216 ∧ 0 ≤ sl ∧ sl < 65536); omega)]
    go_enter Try.func107, Try.ntmps107
    go_wp2_with fail
    go_ret
    exact ⟨by simp [*], (Below.refl _ _).alloc (Nat.le_refl _) _⟩
  rw [show Nd.mayE ⟨K, pg, sl⟩ = true from decide_eq_true ⟨by show K.size ≤ 100; omega, by assumption, by assumption, by assumption, by assumption⟩]
  go_enter Try.func107, Try.ntmps107
  go_wp2_with fail
  go_ret
  exact ⟨by simp [*], (Below.refl _ _).alloc (Nat.le_refl _) _⟩

/-- The first of three numbers that is not zero. -/
def or3 (x y z : Int) : Int := if x ≠ 0 then x else if y ≠ 0 then y else z
theorem ord_or (a b : Nd.Entry) : Nd.ordE a b = or3 (Lib.compareBytes a.key.data.toList b.key.data.toList) (Lib.compareInt a.page b.page) (Lib.compareInt a.slot b.slot) := rfl
set_option maxRecDepth 100000 in
set_option maxHeartbeats 2000000 in
theorem or_any (g : Nat) (x y z : Int) (w : World) (h : w.heap[g]? = some (.cells #[.int .i64 x, .int .i64 y, .int .i64 z] 3 (0, 0))) :
    Calls Try.prog 117 #[.slice (some ⟨g, 0, none⟩) 3 3] w fun e w' => e = .returned (.int .i64 (or3 x y z)) ∧ w = w' := by
  have c0 : w.cell? ⟨g, 0, none⟩ = some (.int .i64 x) := by rw [cell_of_blk h]; rfl
  have c1 : w.cell? ⟨g, 1, none⟩ = some (.int .i64 y) := by rw [cell_of_blk h]; rfl
  have c2 : w.cell? ⟨g, 2, none⟩ = some (.int .i64 z) := by rw [cell_of_blk h]; rfl
  have H1 := Lib.hid (show x ≠ 0 → or3 x y z = x from fun h => if_pos h)
  have H2 := Lib.hid (show x = 0 → y ≠ 0 → or3 x y z = y from fun h h2 => (if_neg (by simp [h])).trans (if_pos h2))
  have H3 := Lib.hid (show x = 0 → y = 0 → or3 x y z = z from fun h h2 => (if_neg (by simp [h])).trans (if_neg (by simp [h2])))
  generalize or3 x y z = R at H1 H2 H3 ⊢
  clear h
  go_enter Try.func117, Try.ntmps117
  go_wp2_with fail
  go_loop [8] (fun i => ∃ k : Nat, k ≤ 3 ∧ i = .int .i64 k ∧ (0 < k → x = 0) ∧ (1 < k → y = 0) ∧ (2 < k → z = 0)) (fun i => 3 - (intOf i).toNat)
  case atStart => exact ⟨0, by omega, rfl, fun h => absurd h (by omega), fun h => absurd h (by omega), fun h => absurd h (by omega)⟩
  case round =>
    obtain ⟨k, hk, rfl, hx, hy, hz⟩ := hrel
    have hk4 : k = 0 ∨ k = 1 ∨ k = 2 ∨ k = 3 := by omega
    rcases hk4 with rfl | rfl | rfl | rfl
    · clear hx hy hz
      by_cases h0 : x = 0
      · have HZ := Lib.hid h0
        rw [h0] at c0
        clear h0
        go_wp2_with fail
        go_round
        case rel => exact ⟨1, by omega, rfl, fun _ => HZ.out, fun h => absurd h (by omega), fun h => absurd h (by omega)⟩
        case measure => simp [intOf]
      · have h1 : (x == 0) = false := by simp [h0]
        have h2 : (x != 0) = true := by simp [h0]
        have HR := Lib.hid (H1.out h0)
        clear h0
        go_wp2_with fail
        go_ret
        exact ⟨ret_int HR.out.symm, rfl⟩
    · have HX := Lib.hid (hx (by omega))
      clear hx hy hz
      by_cases h0 : y = 0
      · have HZ := Lib.hid h0
        rw [h0] at c1
        clear h0
        go_wp2_with fail
        go_round
        case rel => exact ⟨2, by omega, rfl, fun _ => HX.out, fun _ => HZ.out, fun h => absurd h (by omega)⟩
        case measure => simp [intOf]
      · have h1 : (y == 0) = false := by simp [h0]
        have h2 : (y != 0) = true := by simp [h0]
        have HR := Lib.hid (H2.out HX.out h0)
        clear h0
        go_wp2_with fail
        go_ret
        exact ⟨ret_int HR.out.symm, rfl⟩
    · have HX := Lib.hid (hx (by omega))
      have HY := Lib.hid (hy (by omega))
      have HR := Lib.hid (H3.out HX.out HY.out)
      clear hx hy hz
      by_cases h0 : z = 0
      · have HZ := Lib.hid h0
        rw [h0] at c2
        clear h0
        go_wp2_with fail
        go_round
        case rel => exact ⟨3, by omega, rfl, fun _ => HX.out, fun _ => HY.out, fun _ => HZ.out⟩
        case measure => simp [intOf]
      · have h1 : (z == 0) = false := by simp [h0]
        have h2 : (z != 0) = true := by simp [h0]
        clear h0
        go_wp2_with fail
        go_ret
        exact ⟨ret_int HR.out.symm, rfl⟩
    · have HR := Lib.hid (H3.out (hx (by omega)) (hy (by omega)))
      have HZ := Lib.hid (hz (by omega))
      clear hx hy hz
      go_wp2_with fail
      go_ret
      exact ⟨ret_int (a := 0) (by rw [HR.out, HZ.out]), rfl⟩
end Go.Proofs.Ytgbihdlahghonaa
/- The frame for arguments that are entries of a tree. -/
namespace Go.Proofs.Ytgbihdlahghonaa
open Go.ChangeShapes Go.WideShapes Go.ChangeAt Go.RowKit Go.Joins

/-- An entry as a datum. -/
def datE (H : Type) (e : Nd.Entry) : DataW H := .agg [.lit (.string e.key.data.toList), .agg [.lit (.int .i64 e.page), .lit (.int .i64 e.slot)]]
structure FineE (e : Nd.Entry) : Prop where
  key : e.key.size ≤ maxLen
  page : (Lit.int .i64 e.page).wf = true
  slot : (Lit.int .i64 e.slot).wf = true
section
variable {H : Type} {enc : TypeId × Value → H} {w : World} {base : Nat} {spare : Nat → Bool} {held : Bool}
theorem entry_fields : ∃ f0 f1 : Field, Try.prog.underlying 45 = some (.struct #[f0, f1]) ∧ f0.offset = 0 ∧ f1.offset = 1 ∧ f0.type = 9 ∧ f1.type = 43 := ⟨_, _, Try.underlying45, rfl, rfl, rfl, rfl⟩
theorem rid_fields : ∃ f0 f1 : Field, Try.prog.underlying 43 = some (.struct #[f0, f1]) ∧ f0.offset = 0 ∧ f1.offset = 1 ∧ f0.type = 3 ∧ f1.type = 3 := ⟨_, _, Try.underlying43, rfl, rfl, rfl, rfl⟩
theorem cells_entry : Try.prog.cellsOf 45 = 3 := by kernel_rfl
theorem cells_rid : Try.prog.cellsOf 43 = 2 := by kernel_rfl
theorem cells_string : Try.prog.cellsOf 9 = 1 := by kernel_rfl
theorem cells_int : Try.prog.cellsOf 3 = 1 := by kernel_rfl
theorem list3 {α : Type} {l : List α} (h : l.length = 3) : ∃ a b c, l = [a, b, c] := by
  match l, h with
  | [a, b, c], _ => exact ⟨a, b, c, rfl⟩
theorem trod_entry {fuel : Nat} {cs : List Value} {x : DataW H × List MemPlace} (h : DataW.trod enc Try.prog w base spare held fuel 45 cs = some x) :
    ∃ e : Nd.Entry, cs = [.string e.key, .int .i64 e.page, .int .i64 e.slot] ∧ x = (datE H e, []) ∧ FineE e := by
  obtain ⟨f0, f1, hu, o0, o1, t0, t1⟩ := entry_fields
  obtain ⟨g0, g1, hu2, p0, p1, u0, u1⟩ := rid_fields
  obtain ⟨y0, y1, n, hx, hl, h0, h1⟩ := trod_struct2 hu h
  rw [cells_entry] at hl
  obtain ⟨c0, c1, c2, rfl⟩ := list3 hl
  rw [o0, t0, cells_string] at h0
  rw [o1, t1, cells_rid] at h1
  obtain ⟨s, hc0, rfl, hs⟩ := DataW.trod_string Try.underlying9 h0
  obtain ⟨z0, z1, m, hx2, _, k0, k1⟩ := trod_struct2 hu2 h1
  rw [p0, u0, cells_int] at k0
  rw [p1, u1, cells_int] at k1
  obtain ⟨i, hi, rfl, wi⟩ := DataW.trod_int Try.underlying3 k0
  obtain ⟨j, hj, rfl, wj⟩ := DataW.trod_int Try.underlying3 k1
  subst hx2
  refine ⟨⟨s, i, j⟩, ?_, ?_, ⟨hs, wi, wj⟩⟩
  · simp at hc0 hi hj
    rw [hc0, hi, hj]
  · rw [hx]; rfl
theorem trod_entry_mk {e : Nd.Entry} (h : FineE e) (m : Nat) : DataW.trod enc Try.prog w base spare held (m + 3) 45 [.string e.key, .int .i64 e.page, .int .i64 e.slot] = some (datE H e, []) := by
  obtain ⟨f0, f1, hu, o0, o1, t0, t1⟩ := entry_fields
  obtain ⟨g0, g1, hu2, p0, p1, u0, u1⟩ := rid_fields
  have hr : DataW.trod enc Try.prog w base spare held (m + 2) 43 [.int .i64 e.page, .int .i64 e.slot] = some (.agg [.lit (.int .i64 e.page), .lit (.int .i64 e.slot)], []) :=
    trod_struct2_mk (n := m + 1) (y0 := (.lit (.int .i64 e.page), [])) (y1 := (.lit (.int .i64 e.slot), [])) hu2 (by rw [cells_rid]; rfl)
      (by rw [p0, u0, cells_int]; exact trod_int_mk m Try.underlying3 h.page) (by rw [p1, u1, cells_int]; exact trod_int_mk m Try.underlying3 h.slot)
  have hk : DataW.trod enc Try.prog w base spare held (m + 2) 9 [.string e.key] = some (.lit (.string e.key.data.toList), []) := by
    have hk := h.key
    simp [DataW.trod, Try.underlying9, hk]
  exact trod_struct2_mk (n := m + 2) (y0 := (.lit (.string e.key.data.toList), [])) (y1 := (.agg [.lit (.int .i64 e.page), .lit (.int .i64 e.slot)], [])) hu (by rw [cells_entry]; rfl)
      (by rw [o0, t0, cells_string]; exact hk) (by rw [o1, t1, cells_rid]; exact hr)
set_option maxRecDepth 100000 in
theorem open_entry {r : Reach} {b0 : Nat} {v : Value} {d : DataW H} {ps : List MemPlace} (hval : Value.okWide Try.prog w r b0 45 v) (hd : DataW.Trod enc Try.prog w base spare held 45 v d ps) :
    ∃ e : Nd.Entry, v = entV e ∧ d = datE H e ∧ ps = [] ∧ FineE e := by
  obtain ⟨f0, f1, hu, _⟩ := entry_fields
  obtain ⟨cs, rfl, hsz⟩ := okWide_struct hu hval
  obtain ⟨fuel, hf⟩ := hd
  obtain ⟨e, hc, hx, hF⟩ := trod_entry hf
  injection hx with h1 h2
  refine ⟨e, ?_, h1, h2, hF⟩
  have hc2 : cs.toList = [.string e.key, .int .i64 e.page, .int .i64 e.slot] := by simpa [Value.cells] using hc
  show Value.agg cs = _
  congr 1
  exact Array.toList_inj.1 hc2
theorem shut_entry {e : Nd.Entry} (h : FineE e) : DataW.Trod enc Try.prog w base spare held 45 (entV e) (datE H e) [] := ⟨3, by have := trod_entry_mk (H := H) (enc := enc) (w := w) (base := base) (spare := spare) (held := held) h 0; simpa [Value.cells] using this⟩
end
/-- An entry's key is no longer than what a machine reads. -/
theorem key_ok {H : Type} {ts : List TypeId} {ds : List (DataW H)} {j : Nat} {e : Nd.Entry} (h : (DataW.weightsEach Try.prog ts ds).all (· ≤ reachBytes) = true) (ht : ts[j]? = some 45) (hd : ds[j]? = some (datE H e)) : e.key.size ≤ 140737488355328 := by
  have h9 := List.all_eq_true.1 h _ (DataW.weights_mem_each ht hd e.key.data.toList.length (by
    unfold datE
    simp [DataW.weights, Try.underlying45, DataW.weightsEach]))
  have h10 := reachBytes_lt
  have h11 : e.key.data.toList.length = e.key.size := by simp
  have h12 : e.key.data.toList.length ≤ reachBytes := by simpa using h9
  omega
end Go.Proofs.Ytgbihdlahghonaa
/- The walks over package node: order, Less. -/
namespace Go.Proofs.Ytgbihdlahghonaa
open Go.RowKit

/-- Two boxes with entries, while nothing but new blocks is made. -/
abbrev Held2 (X : Nat) (a b : Nd.Entry) (w0 u : World) : Prop :=
  u.cell? ⟨X, 0, none⟩ = some (.string a.key) ∧ u.cell? ⟨X, 1, none⟩ = some (.int .i64 a.page) ∧ u.cell? ⟨X, 2, none⟩ = some (.int .i64 a.slot) ∧
  u.cell? ⟨X + 1, 0, none⟩ = some (.string b.key) ∧ u.cell? ⟨X + 1, 1, none⟩ = some (.int .i64 b.page) ∧ u.cell? ⟨X + 1, 2, none⟩ = some (.int .i64 b.slot) ∧ X + 1 < u.heap.size ∧ Below w0.heap.size w0 u
theorem Held2.step {X : Nat} {a b : Nd.Entry} {w0 u v : World} (h : Held2 X a b w0 u) (hb : Below u.heap.size u v) : Held2 X a b w0 v := by
  obtain ⟨h0, h1, h2, h3, h4, h5, h6, h7⟩ := h
  have := hb.size
  refine ⟨?_, ?_, ?_, ?_, ?_, ?_, by omega, andThen h7 hb⟩
  · rw [hb.cell (p := ⟨X, 0, none⟩) (by show X < _; omega)]; exact h0
  · rw [hb.cell (p := ⟨X, 1, none⟩) (by show X < _; omega)]; exact h1
  · rw [hb.cell (p := ⟨X, 2, none⟩) (by show X < _; omega)]; exact h2
  · rw [hb.cell (p := ⟨X + 1, 0, none⟩) h6]; exact h3
  · rw [hb.cell (p := ⟨X + 1, 1, none⟩) h6]; exact h4
  · rw [hb.cell (p := ⟨X + 1, 2, none⟩) h6]; exact h5
theorem held2_of (w : World) (a b : Nd.Entry) (T : TypeId) : Held2 w.heap.size a b ((w.alloc (.cells #[.string a.key, .int .i64 a.page, .int .i64 a.slot] T)).alloc (.cells #[.string b.key, .int .i64 b.page, .int .i64 b.slot] T)) ((w.alloc (.cells #[.string a.key, .int .i64 a.page, .int .i64 a.slot] T)).alloc (.cells #[.string b.key, .int .i64 b.page, .int .i64 b.slot] T)) := by
  have h1 : ((w.alloc (.cells #[.string a.key, .int .i64 a.page, .int .i64 a.slot] T)).alloc (.cells #[.string b.key, .int .i64 b.page, .int .i64 b.slot] T)).heap[w.heap.size]? = some (.cells #[.string a.key, .int .i64 a.page, .int .i64 a.slot] T (0, 0)) := by
    rw [Below.heap_alloc _ _ _ (by simp)]; exact heap_alloc_new w _
  have h2 : ((w.alloc (.cells #[.string a.key, .int .i64 a.page, .int .i64 a.slot] T)).alloc (.cells #[.string b.key, .int .i64 b.page, .int .i64 b.slot] T)).heap[w.heap.size + 1]? = some (.cells #[.string b.key, .int .i64 b.page, .int .i64 b.slot] T (0, 0)) := by
    have := heap_alloc_new (w.alloc (.cells #[.string a.key, .int .i64 a.page, .int .i64 a.slot] T)) (.cells #[.string b.key, .int .i64 b.page, .int .i64 b.slot] T)
    simpa using this
  refine ⟨?_, ?_, ?_, ?_, ?_, ?_, by simp, Below.refl _ _⟩
  · rw [cell_of_blk h1]; rfl
  · rw [cell_of_blk h1]; rfl
  · rw [cell_of_blk h1]; rfl
  · rw [cell_of_blk h2]; rfl
  · rw [cell_of_blk h2]; rfl
  · rw [cell_of_blk h2]; rfl

set_option maxRecDepth 100000 in
set_option maxHeartbeats 4000000 in
theorem order_any (a b : Nd.Entry) (w : World) :
    Calls Try.prog 94 #[entV a, entV b] w fun x w' => x = .returned (.int .i64 (Nd.ordE a b)) ∧ Below w.heap.size w w' := by
  have HH := Lib.hid (held2_of w a b 45)
  have HC := Lib.hid (fun W => Try.strings_Compare a.key b.key W)
  have HP := Lib.hid (fun W => Try.cmp_Compare_int a.page b.page W)
  have HS := Lib.hid (fun W => Try.cmp_Compare_int a.slot b.slot W)
  rw [ord_or]
  generalize Lib.compareBytes a.key.data.toList b.key.data.toList = x at HC ⊢
  generalize Lib.compareInt a.page b.page = y at HP ⊢
  generalize Lib.compareInt a.slot b.slot = z at HS ⊢
  obtain ⟨ak, ap, as_⟩ := a
  obtain ⟨bk, bp, bs⟩ := b
  simp only at HC HP HS HH
  go_enter Try.func94, Try.ntmps94
  go_upto_region 1 with (fail)
  obtain ⟨V, hV⟩ : ∃ V, V = (w.alloc (.cells #[.string ak, .int .i64 ap, .int .i64 as_] 45)).alloc (.cells #[.string bk, .int .i64 bp, .int .i64 bs] 45) := ⟨_, rfl⟩
  have hwV : Below w.heap.size w V := by rw [hV]; exact ((Below.refl _ _).alloc (Nat.le_refl _) _).alloc (by simp) _
  rw [← hV] at HH ⊢
  clear hV
  have HO := Lib.hid (or_any V.heap.size x y z (V.alloc (.cells #[.int .i64 x, .int .i64 y, .int .i64 z] 3)).drew (heap_alloc_new V _))
  go_region_held3 (fun we => Held2 w.heap.size ⟨ak, ap, as_⟩ ⟨bk, bp, bs⟩ V we) (first | assumption | exact HH.out.step ((Below.refl _ _).drew) | exact HH.out.step (((Below.refl _ _).alloc (Nat.le_refl _) _).drew) | go_keep) (first
    | (go_at_call 118; refine (HC.out _).mono ?_; rintro e w2 ⟨rfl, rfl⟩)
    | (go_at_call 119; ((with_reducible refine (HP.out _).mono ?_); rintro e w2 ⟨rfl, rfl⟩))
    | (go_at_call 119; ((with_reducible refine (HS.out _).mono ?_); rintro e w2 ⟨rfl, rfl⟩))
    | (go_at_call 117; refine HO.out.mono ?_; rintro e w2 ⟨rfl, rfl⟩))
  go_wp2_with fail
  go_ret
  exact ⟨rfl, andThen hwV (((Below.refl _ _).alloc (Nat.le_refl _) _).drew)⟩

set_option maxRecDepth 100000 in
set_option maxHeartbeats 1000000 in
theorem less_any (a b : Nd.Entry) (w : World) :
    Calls Try.prog 65 #[entV a, entV b] w fun x w' => x = .returned (.bool (Nd.lessE a b)) ∧ Below w.heap.size w w' := by
  have HO := Lib.hid (fun W => order_any a b W)
  unfold Nd.lessE
  generalize Nd.ordE a b = n at HO ⊢
  obtain ⟨ak, ap, as_⟩ := a
  obtain ⟨bk, bp, bs⟩ := b
  go_enter Try.func65, Try.ntmps65
  go_wp2_with (go_at_call 94; refine (HO.out _).mono ?_; rintro e w1 ⟨rfl, hb1⟩)
  go_ret
  exact ⟨rfl, below_past (below_past hb1)⟩
end Go.Proofs.Ytgbihdlahghonaa
