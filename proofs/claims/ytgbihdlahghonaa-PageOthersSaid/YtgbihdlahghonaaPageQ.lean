/- The walks over package page and its reference: the reference's Seal, and both Sealed. -/
import Derived.Test.YtgbihdlahghonaaPageP
namespace Go.Proofs.Ytgbihdlahghonaa
open Go.RowKit

/-- Is it a page that has its sum? -/
def sealedP (p : ByteArray) : Bool := isPg p && decide (sealT (p.extract 4 512) = p)

theorem str_eq (a b : ByteArray) : (a.toList == b.toList) = decide (a = b) := by
  rw [ByteArray.toList_eq, ByteArray.toList_eq, Bool.beq_eq_decide_eq]
  by_cases h : a = b
  · simp [h]
  · have h1 : a.data.toList ≠ b.data.toList := fun e => h (ByteArray.ext (Array.toList_inj.1 e))
    simp [h, h1]

set_option maxRecDepth 100000 in
set_option maxHeartbeats 1000000 in
theorem sealed_any (p : ByteArray) (hm : p.size ≤ 1048576) (w : World) :
    Calls Try.prog 31 #[.string p] w fun e w' => e = .returned (.bool (sealedP p)) ∧ Below w.heap.size w w' := by
  have HT := Lib.hid (fun W => right_any p hm W)
  unfold sealedP
  cases hb : isPg p with
  | false =>
    rw [hb] at HT
    clear hb
    go_enter Try.func31, Try.ntmps31
    go_wp2_with (go_at_call 17; refine (HT.out _).mono ?_; rintro e w1 ⟨rfl, hb1⟩)
    go_ret
    exact ⟨rfl, hb1⟩
  | true =>
    have h512 := isPg_size hb
    have HS := Lib.hid (fun W => oseal_any (p.extract 4 512) (by simp; omega) W)
    have hc := str_eq (sealT (p.extract 4 512)) p
    generalize sealT (p.extract 4 512) = q at HS hc ⊢
    generalize decide (q = p) = b at hc ⊢
    rw [hb] at HT
    clear hb
    go_enter Try.func31, Try.ntmps31
    go_wp2_with (first | (go_at_call 17; refine (HT.out _).mono ?_; rintro e w1 ⟨rfl, hb1⟩) | (go_at_call 81; refine (HS.out _).mono ?_; rintro e w2 ⟨rfl, hb2⟩))
    go_ret
    exact ⟨by simp, andThen hb1 hb2⟩

theorem rput_keeps (n size : Int) (h0 : 0 ≤ size) (h8 : size ≤ 8) (w0 u : World) (h : Below w0.heap.size w0 u) :
    Calls Try.prog 82 #[.int .i64 n, .int .i64 size] u fun e w' => e = .returned (.string (Oct.putB n size)) ∧ Below w0.heap.size w0 w' :=
  (rput_any n size h0 h8 u).mono fun _ _ ⟨h1, h2⟩ => ⟨h1, andThen h h2⟩
theorem rsum_keeps (s : ByteArray) (hm : s.size ≤ 281474976710656) (w0 u : World) (h : Below w0.heap.size w0 u) :
    Calls Try.prog 83 #[.string s] u fun e w' => e = .returned (.int .i64 (Oct.sumN s.data.toList)) ∧ Below w0.heap.size w0 w' :=
  (rsum_any s hm u).mono fun _ _ ⟨h1, h2⟩ => ⟨h1, h2 ▸ h⟩
set_option maxRecDepth 100000 in
set_option maxHeartbeats 1000000 in
theorem rseal_any (p : ByteArray) (hm : p.size ≤ 1048576) (w : World) :
    Calls Try.prog 34 #[.string p] w fun e w' => e = .returned (.string (sealB p)) ∧ Below w.heap.size w w' := by
  have HT := Lib.hid (fun W => rright_any p hm W)
  unfold sealB
  cases hb : isPg p with
  | false =>
    rw [hb] at HT
    clear hb
    go_enter Try.func34, Try.ntmps34
    go_wp2_with (go_at_call 18; refine (HT.out _).mono ?_; rintro e w1 ⟨rfl, hb1⟩)
    go_ret
    exact ⟨rfl, hb1⟩
  | true =>
    have h512 := isPg_size hb
    have h4 : 4 ≤ p.size := by omega
    have HS := Lib.hid (fun w0 W hW => rsum_keeps (p.extract 4 512) (by simp; omega) w0 W hW)
    have hz4 : (p.extract 4 p.size).size = 508 := by simp; omega
    have hz5 : (p.extract 4 512).size = 508 := by simp; omega
    unfold sealT
    generalize Oct.sumN (p.extract 4 512).data.toList = n at HS ⊢
    have hz : (Oct.putB (n : Int) 4).size = 4 := Oct.putB_size _ 4 (by omega)
    have HP := Lib.hid (fun w0 W hW => rput_keeps (n : Int) 4 (by omega) (by omega) w0 W hW)
    generalize Oct.putB (n : Int) 4 = q at HP hz ⊢
    rw [hb] at HT
    clear hb
    go_enter Try.func34, Try.ntmps34
    go_upto_region 3 with (first | (go_at_call 18; refine (HT.out _).mono ?_; rintro e w1 ⟨rfl, hb1⟩))
    go_region_held3 (fun we => Below w1.heap.size w1 we) (first | assumption | exact (Below.refl _ _).drew) (first | (go_at_call 83; refine (HS.out _ _ (by assumption)).mono ?_; rintro e w2 ⟨rfl, hS⟩) | (go_at_call 82; refine (HP.out _ _ (by assumption)).mono ?_; rintro e w3 ⟨rfl, hS⟩))
    go_wp2_with fail
    go_ret
    exact ⟨rfl, andThen hb1 hS⟩

set_option maxRecDepth 100000 in
set_option maxHeartbeats 1000000 in
theorem rsealed_any (p : ByteArray) (hm : p.size ≤ 1048576) (w : World) :
    Calls Try.prog 32 #[.string p] w fun e w' => e = .returned (.bool (sealedP p)) ∧ Below w.heap.size w w' := by
  have HT := Lib.hid (fun W => rright_any p hm W)
  have HS := Lib.hid (fun W => rseal_any p hm W)
  unfold sealedP
  unfold sealB at HS
  cases hb : isPg p with
  | false =>
    rw [hb] at HT
    clear hb
    go_enter Try.func32, Try.ntmps32
    go_wp2_with (go_at_call 18; refine (HT.out _).mono ?_; rintro e w1 ⟨rfl, hb1⟩)
    go_ret
    exact ⟨rfl, hb1⟩
  | true =>
    rw [hb, if_pos rfl] at HS
    have hc := str_eq (sealT (p.extract 4 512)) p
    generalize sealT (p.extract 4 512) = q at HS hc ⊢
    generalize decide (q = p) = b at hc ⊢
    rw [hb] at HT
    clear hb
    go_enter Try.func32, Try.ntmps32
    go_wp2_with (first | (go_at_call 18; refine (HT.out _).mono ?_; rintro e w1 ⟨rfl, hb1⟩) | (go_at_call 34; refine (HS.out _).mono ?_; rintro e w2 ⟨rfl, hb2⟩))
    go_ret
    exact ⟨by simp, andThen hb1 hb2⟩
end Go.Proofs.Ytgbihdlahghonaa
