/- The walks over package page and its reference: Seal, Sealed. -/
import Derived.Test.YtgbihdlahghonaaPageO
namespace Go.Proofs.Ytgbihdlahghonaa
open Go.RowKit

/-- A text behind its sum. -/
def sealT (t : ByteArray) : ByteArray := Oct.putB (Oct.sumN t.data.toList : Nat) 4 ++ t
/-- A page with its sum; empty: it is none. -/
def sealB (p : ByteArray) : ByteArray := if isPg p then sealT (p.extract 4 512) else ⟨#[]⟩

theorem isPg_size {p : ByteArray} (h : isPg p = true) : p.size = 512 := by
  unfold isPg at h
  cases hr : Pg.right p.data.toList with
  | none => rw [hr] at h; cases h
  | some x =>
    have := (Pg.right_fine hr).2
    have h9 : p.data.toList.length = p.size := (by simp)
    omega

set_option maxRecDepth 100000 in
set_option maxHeartbeats 1000000 in
theorem oseal_any (t : ByteArray) (hm : t.size ≤ 1048576) (w : World) :
    Calls Try.prog 81 #[.string t] w fun e w' => e = .returned (.string (sealT t)) ∧ Below w.heap.size w w' := by
  have HS := Lib.hid (fun W => sum_any t (by omega) W)
  unfold sealT
  generalize Oct.sumN t.data.toList = n at HS ⊢
  have hz : (Oct.putB (n : Int) 4).size = 4 := Oct.putB_size _ 4 (by omega)
  have HP := Lib.hid (fun W => put_any (n : Int) 4 (by omega) (by omega) W)
  generalize Oct.putB (n : Int) 4 = q at HP hz ⊢
  have hadd : ∀ W : World, (Op.stringOp .add q t).run Try.prog W = .ok (.string (q ++ t)) W := fun W => run_string_add_sum W _ _ (by omega)
  go_enter Try.func81, Try.ntmps81
  go_wp2_with (first | (go_at_call 110; refine (HS.out _).mono ?_; rintro e w1 ⟨rfl, rfl⟩) | (go_at_call 106; refine (HP.out _).mono ?_; rintro e w2 ⟨rfl, hb⟩))
  go_ret
  exact ⟨rfl, hb⟩

set_option maxRecDepth 100000 in
set_option maxHeartbeats 1000000 in
theorem seal_any (p : ByteArray) (hm : p.size ≤ 1048576) (w : World) :
    Calls Try.prog 33 #[.string p] w fun e w' => e = .returned (.string (sealB p)) ∧ Below w.heap.size w w' := by
  have HT := Lib.hid (fun W => right_any p hm W)
  unfold sealB
  cases hb : isPg p with
  | false =>
    rw [hb] at HT
    clear hb
    go_enter Try.func33, Try.ntmps33
    go_wp2_with (go_at_call 17; refine (HT.out _).mono ?_; rintro e w1 ⟨rfl, hb1⟩)
    go_ret
    exact ⟨rfl, hb1⟩
  | true =>
    have h512 := isPg_size hb
    have HS := Lib.hid (fun W => oseal_any (p.extract 4 512) (by simp; omega) W)
    rw [hb] at HT
    clear hb
    go_enter Try.func33, Try.ntmps33
    go_wp2_with (first | (go_at_call 17; refine (HT.out _).mono ?_; rintro e w1 ⟨rfl, hb1⟩) | (go_at_call 81; refine (HS.out _).mono ?_; rintro e w2 ⟨rfl, hb2⟩))
    go_ret
    exact ⟨rfl, andThen hb1 hb2⟩
end Go.Proofs.Ytgbihdlahghonaa
