/- The walks over package page and its reference: full, laid. -/
import Derived.Test.YtgbihdlahghonaaPageU
namespace Pg
theorem trimN_eq_iff (rs : List ByteArray) : trim rs = rs ↔ trimN rs rs.length = rs.length := by
  unfold trim
  constructor
  · intro h
    have h1 := congrArg List.length h
    rw [List.length_take] at h1
    have := trimN_le rs rs.length
    omega
  · intro h; rw [h, List.take_length]
theorem sizeN_trim (rs : List ByteArray) : sizeN (trim rs) ≤ sizeN rs := by
  unfold sizeN trim
  have := sumSizes_take_le rs (trimN rs rs.length)
  have := List.length_take_le (trimN rs rs.length) rs
  have : (rs.take (trimN rs rs.length)).length ≤ rs.length := by rw [List.length_take]; omega
  omega
theorem layL_nil {x : Leaf} (h : 512 < sizeN (trim x.recs)) : layL x = [] := by unfold layL layR; rw [if_pos h]
theorem layL_length {x : Leaf} (h : sizeN (trim x.recs) ≤ 512) : (layL x).length = 512 := layR_length x _ (by omega)
theorem layL_nil_iff (x : Leaf) : layL x = [] ↔ 512 < sizeN (trim x.recs) := by
  constructor
  · intro h
    rcases Nat.lt_or_ge 512 (sizeN (trim x.recs)) with h1 | h1
    · exact h1
    · have := layL_length h1; rw [h] at this; cases this
  · exact layL_nil
/-- What comes of parts: the page; or that they do not fit. -/
def fullO (x : Leaf) : ByteArray × Int := if layL x = [] then (⟨#[]⟩, 18) else (⟨(layL x).toArray⟩, 0)
theorem fullO_yes {x : Leaf} (h : sizeN (trim x.recs) ≤ 512) : fullO x = (⟨(layL x).toArray⟩, 0) := by
  unfold fullO; rw [if_neg]; rw [layL_nil_iff]; omega
theorem fullO_no {x : Leaf} (h : 512 < sizeN (trim x.recs)) : fullO x = (⟨#[]⟩, 18) := by
  unfold fullO; rw [if_pos ((layL_nil_iff x).2 h)]
end Pg
namespace Go.Proofs.Ytgbihdlahghonaa
open Go.RowKit

/-- A text and an error. -/
abbrev outV (o : ByteArray × Int) : Value := .tuple #[.string o.1, .int .i64 o.2]

set_option maxRecDepth 100000 in
set_option maxHeartbeats 1000000 in
theorem full_any (x : Pg.Leaf) (A : Option Addr) (c : Nat) (hx : Pg.Small x) (hb : Pg.sizeN x.recs ≤ 1099511627776) (w : World) (h : Cells w A c x.recs) :
    Calls Try.prog 85 #[leafV x A c] w fun e w' => e = .returned (outV (Pg.fullO x)) ∧ Below w.heap.size w w' := by
  have HM := Lib.hid (made_any x A c hx hb _ (h.below ((Below.refl w.heap.size w).alloc (Nat.le_refl _) (.cells #[.int .i64 x.lsn, .int .i64 x.kind, .int .i64 x.link, .slice A x.recs.length c] 67 (0, 0)))))
  clear h
  unfold Pg.fullO
  by_cases h0 : Pg.layL x = []
  · rw [if_pos h0]
    rw [h0] at HM
    clear h0
    go_enter Try.func85, Try.ntmps85
    go_wp2_with (go_at_call 87; refine (HM.out).mono ?_; rintro e w1 ⟨rfl, hb1⟩)
    go_ret2
    exact ⟨rfl, below_past hb1⟩
  · rw [if_neg h0]
    obtain ⟨q, hq⟩ : ∃ q : ByteArray, q = ⟨(Pg.layL x).toArray⟩ := ⟨_, rfl⟩
    rw [← hq] at HM ⊢
    have hie : q.toList.isEmpty = false := by
      rw [empty_iff, hq]
      refine decide_eq_false fun h1 => h0 ?_
      have h2 : (Pg.layL x).toArray.size = 0 := h1
      simpa using h2
    have hl : q.toList = Pg.layL x := by rw [ByteArray.toList_eq, hq]
    have hne : ¬ q.toList = [] := by rw [hl]; exact h0
    clear h0 hq hl
    go_enter Try.func85, Try.ntmps85
    go_wp2_with (go_at_call 87; refine (HM.out).mono ?_; rintro e w1 ⟨rfl, hb1⟩)
    go_ret2
    exact ⟨rfl, below_past hb1⟩

set_option maxRecDepth 100000 in
set_option maxHeartbeats 1000000 in
theorem laid_any (x : Pg.Leaf) (A : Option Addr) (c : Nat) (hx : Pg.Small x) (hb : Pg.sizeN x.recs ≤ 1099511627776) (ht : Pg.sizeN x.recs ≤ 512 ∨ Pg.trim x.recs = x.recs) (w : World) (h : Cells w A c x.recs) :
    Calls Try.prog 91 #[leafV x A c] w fun e w' => e = .returned (outV (Pg.fullO x)) ∧ Below w.heap.size w w' := by
  have HL := Lib.hid (fun W hW => rlay_any x A c hx hb W hW)
  have HC := Lib.hid (h.below ((Below.refl w.heap.size w).alloc (Nat.le_refl _) (.cells #[.int .i64 x.lsn, .int .i64 x.kind, .int .i64 x.link, .slice A x.recs.length c] 71 (0, 0))))
  clear h
  by_cases h5 : Pg.sizeN x.recs ≤ 512
  · rw [Pg.fullO_yes (Nat.le_trans (Pg.sizeN_trim _) h5)]
    have HF := Lib.hid (fun W hW => rfits_is x A c x.recs hb true (decide_eq_true h5) W hW)
    clear h5 hb ht
    generalize (⟨(Pg.layL x).toArray⟩ : ByteArray) = q at HL ⊢
    go_enter Try.func91, Try.ntmps91
    go_wp2_with (first | (go_at_call 116; refine (HF.out _ HC.out).mono ?_; rintro e w1 ⟨rfl, hb1⟩; obtain ⟨c0, c1, c2, c3, f0, f1, f2, f3⟩ := blk4 (blk_new hb1)) | (go_at_call 88; refine (HL.out _ (HC.out.below hb1)).mono ?_; rintro e w2 ⟨rfl, hb2⟩))
    go_ret2
    exact ⟨rfl, andThen (below_past hb1) hb2⟩
  · have ht2 : Pg.trim x.recs = x.recs := by rcases ht with h | h; exact absurd h h5; exact h
    rw [Pg.fullO_no (by rw [ht2]; omega)]
    have HF := Lib.hid (fun W hW => rfits_is x A c x.recs hb false (decide_eq_false h5) W hW)
    clear h5 hb ht ht2
    go_enter Try.func91, Try.ntmps91
    go_wp2_with (first | (go_at_call 116; refine (HF.out _ HC.out).mono ?_; rintro e w1 ⟨rfl, hb1⟩))
    go_ret2
    exact ⟨rfl, below_past hb1⟩
end Go.Proofs.Ytgbihdlahghonaa
