/- What the statement's texts need beside the base. -/
import Derived.Test.YthfglhafphfhiaaHt15
/- of RecF -/
namespace Go.Proofs.Ythfglhafphfhiaa
open Go.RowKit
set_option maxRecDepth 100000 in
theorem rsame_txn (l m : List Rc.TxnAt) (hn : l.length ≤ 140737488355328) (_hm : m.length ≤ 140737488355328) (A A' : Option Addr) (c c' : Nat) (w : World) (hr : TxR w A c l) (hr' : TxR w A' c' m) :
    Calls Try.prog 7 #[.slice A l.length c, .slice A' m.length c'] w fun e w' => e = .returned (.bool (decide (l = m))) ∧ Below w.heap.size w w' := by
  have HR := Lib.hid hr
  have HR' := Lib.hid hr'
  obtain ⟨b, hb⟩ : ∃ b, b = decide (l = m) := ⟨_, rfl⟩
  rw [← hb]
  have HB := Lib.hid hb
  clear hr hr' hb
  go_enter Try.func7, Try.ntmps7
  go_wp2_with fail
  go_loopw [5] (fun i wr => ∃ k : Nat, k ≤ l.length ∧ k ≤ m.length ∧ i = .int .i64 k ∧ (∀ j (hj : j < l.length) (hj' : j < m.length), j < k → l[j] = m[j]) ∧ Below w.heap.size w wr) (fun i _ => l.length - (intOf i).toNat)
  case atStart => exact ⟨0, Nat.zero_le _, Nat.zero_le _, rfl, fun _ _ _ h => absurd h (by omega), Below.refl _ _⟩
  case round =>
    obtain ⟨k, hk, hkm, rfl, hall, hbw⟩ := hrel
    have HA := Lib.hid hall
    clear hall
    by_cases hl1 : k < l.length
    · have hi3 : decide (k < l.length) = true := decide_eq_true hl1
      by_cases hl2 : k < m.length
      · have hi4 : decide (k < m.length) = true := decide_eq_true hl2
        obtain ⟨b1, off, rfl, hc, hbl, hcell⟩ := read_at txC_len (HR.out.below hbw) hl1
        obtain ⟨b2, off2, rfl, hc2, hbl2, hcell2⟩ := read_at txC_len (HR'.out.below hbw) hl2
        have q0 := hcell 0 _ rfl
        have r0 := hcell2 0 _ rfl
        have q1 := hcell 1 _ rfl
        have r1 := hcell2 1 _ rfl
        have q2 := hcell 2 _ rfl
        have r2 := hcell2 2 _ rfl
        have q3 := hcell 3 _ rfl
        have r3 := hcell2 3 _ rfl
        clear hcell hcell2
        simp only [Nat.add_zero] at q0 r0
        have HN := Lib.hid (show l[k] ≠ m[k] → b = false from fun h => HB.out.trans (Rc.eq_no hl1 hl2 h))
        have HY := Lib.hid (show l[k] = m[k] → ∀ j (hj : j < l.length) (hj' : j < m.length), j < k + 1 → l[j] = m[j] from fun h j hj hj' hjk => by
          rcases Nat.lt_or_eq_of_le (Nat.le_of_lt_succ hjk) with h1 | h1
          · exact HA.out j hj hj' h1
          · subst h1; exact h)
        have HE := Lib.hid (fun W => txn_equal l[k] m[k] W)
        clear hc hc2 HA
        generalize l[k] = x at q0 q1 q2 q3 HN HY HE
        generalize m[k] = y at r0 r1 r2 r3 HN HY HE
        have hj1 : (0 : Int) ≤ (k : Int) := by omega
        have hj2 : (k : Int) < (l.length : Int) := by omega
        have hj3 : (k : Int) < (m.length : Int) := by omega
        cases hd : decide (x = y) with
        | true =>
          have HY2 := Lib.hid (HY.out (of_decide_eq_true hd))
          have heq := HE.out
          rw [hd] at heq
          clear HN HY hd HE
          obtain ⟨xfa, xfb, xfc, xfd⟩ := x
          obtain ⟨yfa, yfb, yfc, yfd⟩ := y
          go_upto_region 4 with (fail)
          go_quiet (fail)
          go_wp2_with fail
          go_roundw
          case rel => exact ⟨k + 1, by omega, by omega, by go_num, HY2.out, joinB hbw (drewB _ _)⟩
          case measure => simp [intOf]; omega
        | false =>
          have HN2 := Lib.hid (HN.out (of_decide_eq_false hd))
          have heq := HE.out
          rw [hd] at heq
          clear HN HY hd HE
          obtain ⟨xfa, xfb, xfc, xfd⟩ := x
          obtain ⟨yfa, yfb, yfc, yfd⟩ := y
          go_upto_region 4 with (fail)
          go_quiet (fail)
          go_wp2_with fail
          go_ret
          exact ⟨by rw [HN2.out]; rfl, joinB hbw (drewB _ _)⟩
      · have hi4 : decide (k < m.length) = false := decide_eq_false hl2
        have hne3 : (l.length == m.length) = false := by simp; omega
        have hne4 : ((l.length : Int) == (m.length : Int)) = false := by simp; omega
        have HN2 := Lib.hid (HB.out.trans (decide_eq_false (fun e => by rw [e] at hl1; exact hl2 hl1)))
        go_wp2_with fail
        go_ret
        exact ⟨by rw [HN2.out]; simp; try omega, hbw⟩
    · have hi3 : decide (k < l.length) = false := decide_eq_false hl1
      obtain rfl : k = l.length := by omega
      by_cases hlm : l.length = m.length
      · have HE := Lib.hid (show b = true from HB.out.trans (Rc.eq_yes hlm fun j hj hj' => HA.out j hj hj' hj))
        have hne3 : (l.length == m.length) = true := by simp [hlm]
        have hne4 : ((l.length : Int) == (m.length : Int)) = true := by simp [hlm]
        have HLM := Lib.hid hlm
        clear hlm
        go_wp2_with fail
        go_ret
        exact ⟨by rw [HE.out]; have hlm := HLM.out; simp [hlm], hbw⟩
      · have hne3 : (l.length == m.length) = false := by simp; omega
        have hne4 : ((l.length : Int) == (m.length : Int)) = false := by simp; omega
        have HN2 := Lib.hid (HB.out.trans (decide_eq_false (fun e => hlm (by rw [e]))))
        go_wp2_with fail
        go_ret
        exact ⟨by rw [HN2.out]; simp; try omega, hbw⟩
end Go.Proofs.Ythfglhafphfhiaa
namespace Rc
end Rc
namespace Go.Proofs.Ythfglhafphfhiaa
open Go.RowKit
end Go.Proofs.Ythfglhafphfhiaa
/- of LogE0 -/
namespace Lg
end Lg
namespace Go.Proofs.Ythfglhafphfhiaa
open Go.RowKit
abbrev PRecR (w : World) (p : PRec) : Prop := RecR w p.r p.A p.c p.B p.d
end Go.Proofs.Ythfglhafphfhiaa
/- of RecFrame -/
namespace Go.Proofs.Ythfglhafphfhiaa
open Go.ChangeShapes Go.WideShapes Go.ChangeAt Go.RowKit
theorem cellsS : Try.prog.cellsOf 9 = 1 := by kernel_rfl
theorem cellsB : Try.prog.cellsOf 4 = 1 := by kernel_rfl
theorem cellsOp : Try.prog.cellsOf 24 = 4 := by kernel_rfl
theorem cellsEn : Try.prog.cellsOf 28 = 3 := by kernel_rfl
theorem cellsRi : Try.prog.cellsOf 26 = 2 := by kernel_rfl
theorem cellsTx : Try.prog.cellsOf 66 = 4 := by kernel_rfl
theorem cellsDi : Try.prog.cellsOf 138 = 2 := by kernel_rfl
theorem cellsTs : Try.prog.cellsOf 22 = 1 := by kernel_rfl
theorem cellsDs : Try.prog.cellsOf 29 = 1 := by kernel_rfl
theorem cellsRe : Try.prog.cellsOf 31 = 18 := by kernel_rfl
theorem opFields : ∃ f0 f1 f2 f3 : Field, Try.prog.underlying 24 = some (.struct #[f0, f1, f2, f3]) ∧ (f0.offset = 0 ∧ f1.offset = 1 ∧ f2.offset = 2 ∧ f3.offset = 3) ∧ f0.type = 3 ∧ f1.type = 3 ∧ f2.type = 9 ∧ f3.type = 9 := ⟨_, _, _, _, Try.underlying24, ⟨rfl, rfl, rfl, rfl⟩, rfl, rfl, rfl, rfl⟩
theorem enFields : ∃ f0 f1 : Field, Try.prog.underlying 28 = some (.struct #[f0, f1]) ∧ (f0.offset = 0 ∧ f1.offset = 1) ∧ f0.type = 9 ∧ f1.type = 26 := ⟨_, _, Try.underlying28, ⟨rfl, rfl⟩, rfl, rfl⟩
theorem riFields : ∃ f0 f1 : Field, Try.prog.underlying 26 = some (.struct #[f0, f1]) ∧ (f0.offset = 0 ∧ f1.offset = 1) ∧ f0.type = 3 ∧ f1.type = 3 := ⟨_, _, Try.underlying26, ⟨rfl, rfl⟩, rfl, rfl⟩
theorem txFields : ∃ f0 f1 f2 f3 : Field, Try.prog.underlying 66 = some (.struct #[f0, f1, f2, f3]) ∧ (f0.offset = 0 ∧ f1.offset = 1 ∧ f2.offset = 2 ∧ f3.offset = 3) ∧ f0.type = 3 ∧ f1.type = 3 ∧ f2.type = 3 ∧ f3.type = 4 := ⟨_, _, _, _, Try.underlying66, ⟨rfl, rfl, rfl, rfl⟩, rfl, rfl, rfl, rfl⟩
theorem diFields : ∃ f0 f1 : Field, Try.prog.underlying 138 = some (.struct #[f0, f1]) ∧ (f0.offset = 0 ∧ f1.offset = 1) ∧ f0.type = 3 ∧ f1.type = 3 := ⟨_, _, Try.underlying138, ⟨rfl, rfl⟩, rfl, rfl⟩
theorem reFields : ∃ f0 f1 f2 f3 f4 f5 f6 f7 f8 f9 f10 f11 f12 : Field, Try.prog.underlying 31 = some (.struct #[f0, f1, f2, f3, f4, f5, f6, f7, f8, f9, f10, f11, f12]) ∧
    (f0.offset = 0 ∧ f1.offset = 1 ∧ f2.offset = 2 ∧ f3.offset = 3 ∧ f4.offset = 4 ∧ f5.offset = 5 ∧ f6.offset = 6 ∧ f7.offset = 7 ∧ f8.offset = 11 ∧ f9.offset = 12 ∧ f10.offset = 13 ∧ f11.offset = 16 ∧ f12.offset = 17) ∧
    (f0.type = 3 ∧ f1.type = 3 ∧ f2.type = 3 ∧ f3.type = 3 ∧ f4.type = 3 ∧ f5.type = 3 ∧ f6.type = 3 ∧ f7.type = 24 ∧ f8.type = 3 ∧ f9.type = 3 ∧ f10.type = 28 ∧ f11.type = 22 ∧ f12.type = 29) :=
  ⟨_, _, _, _, _, _, _, _, _, _, _, _, _, Try.underlying31, ⟨rfl, rfl, rfl, rfl, rfl, rfl, rfl, rfl, rfl, rfl, rfl, rfl, rfl⟩, ⟨rfl, rfl, rfl, rfl, rfl, rfl, rfl, rfl, rfl, rfl, rfl, rfl, rfl⟩⟩
theorem list2' {α : Type} {l : List α} (h : l.length = 2) : ∃ a b, l = [a, b] := by
  match l, h with
  | [a, b], _ => exact ⟨a, b, rfl⟩
theorem list4' {α : Type} {l : List α} (h : l.length = 4) : ∃ a b c d, l = [a, b, c, d] := by
  match l, h with
  | [a, b, c, d], _ => exact ⟨a, b, c, d, rfl⟩
theorem list18 {α : Type} {l : List α} (h : l.length = 18) : ∃ a0 a1 a2 a3 a4 a5 a6 a7 a8 a9 b0 b1 b2 b3 b4 b5 b6 b7, l = [a0, a1, a2, a3, a4, a5, a6, a7, a8, a9, b0, b1, b2, b3, b4, b5, b6, b7] := by
  match l, h with
  | [a0, a1, a2, a3, a4, a5, a6, a7, a8, a9, b0, b1, b2, b3, b4, b5, b6, b7], _ => exact ⟨a0, a1, a2, a3, a4, a5, a6, a7, a8, a9, b0, b1, b2, b3, b4, b5, b6, b7, rfl⟩
theorem bytesTx : 1 ≤ Try.prog.bytesOf 66 := by decide +kernel
theorem bytesDi : 1 ≤ Try.prog.bytesOf 138 := by decide +kernel
section
variable {H : Type} {enc : TypeId × Value → H} {w : World} {base : Nat} {spare : Nat → Bool} {held : Bool}
theorem trod_tx (fuel : Nat) (cs : List Value) (x : DataW H × List MemPlace) (h : DataW.trod enc Try.prog w base spare held fuel 66 cs = some x) (_ : Light 66 x.1) : ∃ o : Rc.TxnAt, cs = txC o ∧ True := by
  obtain ⟨f0, f1, f2, f3, hu, ⟨o0, o1, o2, o3⟩, t0, t1, t2, t3⟩ := txFields
  obtain ⟨n, hl, hf⟩ := trod_field hu h
  rw [cellsTx] at hl
  obtain ⟨c0, c1, c2, c3, rfl⟩ := list4' hl
  obtain ⟨y0, h0, gh0⟩ := hf 0 f0 rfl
  obtain ⟨y1, h1, gh1⟩ := hf 1 f1 rfl
  obtain ⟨y2, h2, gh2⟩ := hf 2 f2 rfl
  obtain ⟨y3, h3, gh3⟩ := hf 3 f3 rfl
  rw [o0, t0, cellsI] at h0
  rw [o1, t1, cellsI] at h1
  rw [o2, t2, cellsI] at h2
  rw [o3, t3, cellsB] at h3
  obtain ⟨i0, e0, _, _⟩ := DataW.trod_int Try.underlying3 h0
  obtain ⟨i1, e1, _, _⟩ := DataW.trod_int Try.underlying3 h1
  obtain ⟨i2, e2, _, _⟩ := DataW.trod_int Try.underlying3 h2
  obtain ⟨b3, e3, _⟩ := DataW.trod_bool Try.underlying4 h3
  simp at e0 e1 e2 e3
  exact ⟨⟨i0, i1, i2, b3⟩, by rw [e0, e1, e2, e3]; rfl, trivial⟩
theorem trod_di (fuel : Nat) (cs : List Value) (x : DataW H × List MemPlace) (h : DataW.trod enc Try.prog w base spare held fuel 138 cs = some x) (_ : Light 138 x.1) : ∃ o : Rc.DirtyAt, cs = diC o ∧ True := by
  obtain ⟨f0, f1, hu, ⟨o0, o1⟩, t0, t1⟩ := diFields
  obtain ⟨n, hl, hf⟩ := trod_field hu h
  rw [cellsDi] at hl
  obtain ⟨c0, c1, rfl⟩ := list2' hl
  obtain ⟨y0, h0, gh0⟩ := hf 0 f0 rfl
  obtain ⟨y1, h1, gh1⟩ := hf 1 f1 rfl
  rw [o0, t0, cellsI] at h0
  rw [o1, t1, cellsI] at h1
  obtain ⟨i0, e0, _, _⟩ := DataW.trod_int Try.underlying3 h0
  obtain ⟨i1, e1, _, _⟩ := DataW.trod_int Try.underlying3 h1
  simp at e0 e1
  exact ⟨⟨i0, i1⟩, by rw [e0, e1]; rfl, trivial⟩
theorem trod_opr {fuel : Nat} {cs : List Value} {x : DataW H × List MemPlace} (h : DataW.trod enc Try.prog w base spare held fuel 24 cs = some x) : ∃ o : Rc.Op, cs = [.int .i64 o.kind, .int .i64 o.slot, .string o.old, .string o.new] := by
  obtain ⟨f0, f1, f2, f3, hu, ⟨o0, o1, o2, o3⟩, t0, t1, t2, t3⟩ := opFields
  obtain ⟨n, hl, hf⟩ := trod_field hu h
  rw [cellsOp] at hl
  obtain ⟨c0, c1, c2, c3, rfl⟩ := list4' hl
  obtain ⟨y0, h0, gh0⟩ := hf 0 f0 rfl
  obtain ⟨y1, h1, gh1⟩ := hf 1 f1 rfl
  obtain ⟨y2, h2, gh2⟩ := hf 2 f2 rfl
  obtain ⟨y3, h3, gh3⟩ := hf 3 f3 rfl
  rw [o0, t0, cellsI] at h0
  rw [o1, t1, cellsI] at h1
  rw [o2, t2, cellsS] at h2
  rw [o3, t3, cellsS] at h3
  obtain ⟨i0, e0, _, _⟩ := DataW.trod_int Try.underlying3 h0
  obtain ⟨i1, e1, _, _⟩ := DataW.trod_int Try.underlying3 h1
  obtain ⟨i2, e2, _, _⟩ := DataW.trod_string Try.underlying9 h2
  obtain ⟨i3, e3, _, _⟩ := DataW.trod_string Try.underlying9 h3
  simp at e0 e1 e2 e3
  exact ⟨⟨i0, i1, i2, i3⟩, by rw [e0, e1, e2, e3]⟩
theorem trod_en {fuel : Nat} {cs : List Value} {x : DataW H × List MemPlace} (h : DataW.trod enc Try.prog w base spare held fuel 28 cs = some x) : ∃ o : Rc.Key, cs = [.string o.key, .int .i64 o.page, .int .i64 o.slot] := by
  obtain ⟨f0, f1, hu, ⟨o0, o1⟩, t0, t1⟩ := enFields
  obtain ⟨g0, g1, hu2, ⟨p0, p1⟩, u0, u1⟩ := riFields
  obtain ⟨n, hl, hf⟩ := trod_field hu h
  rw [cellsEn] at hl
  obtain ⟨c0, c1, c2, rfl⟩ := list3' hl
  obtain ⟨y0, h0, gh0⟩ := hf 0 f0 rfl
  obtain ⟨y1, h1, gh1⟩ := hf 1 f1 rfl
  rw [o0, t0, cellsS] at h0
  rw [o1, t1, cellsRi] at h1
  obtain ⟨i0, e0, _, _⟩ := DataW.trod_string Try.underlying9 h0
  obtain ⟨n2, hl2, hf2⟩ := trod_field hu2 h1
  obtain ⟨y2, h2, gh2⟩ := hf2 0 g0 rfl
  obtain ⟨y3, h3, gh3⟩ := hf2 1 g1 rfl
  rw [p0, u0, cellsI] at h2
  rw [p1, u1, cellsI] at h3
  obtain ⟨i2, e2, _, _⟩ := DataW.trod_int Try.underlying3 h2
  obtain ⟨i3, e3, _, _⟩ := DataW.trod_int Try.underlying3 h3
  simp at e0 e2 e3
  exact ⟨⟨i0, i2, i3⟩, by rw [e0, e2, e3]⟩
set_option maxRecDepth 100000 in
theorem trod_rec (fuel : Nat) (cs : List Value) (x : DataW H × List MemPlace) (h : DataW.trod enc Try.prog w base spare held fuel 31 cs = some x) (hL : Light 31 x.1) : ∃ p : PRec, cs = recC p ∧ PRecR w p := by
  obtain ⟨f0, f1, f2, f3, f4, f5, f6, f7, f8, f9, f10, f11, f12, hu, ⟨o0, o1, o2, o3, o4, o5, o6, o7, o8, o9, o10, o11, o12⟩, ⟨t0, t1, t2, t3, t4, t5, t6, t7, t8, t9, t10, t11, t12⟩⟩ := reFields
  obtain ⟨n, hl, hf⟩ := trod_field hu h
  rw [cellsRe] at hl
  obtain ⟨a0, a1, a2, a3, a4, a5, a6, a7, a8, a9, b0, b1, b2, b3, b4, b5, b6, b7, rfl⟩ := list18 hl
  obtain ⟨y0, h0, gh0⟩ := hf 0 f0 rfl
  obtain ⟨y1, h1, gh1⟩ := hf 1 f1 rfl
  obtain ⟨y2, h2, gh2⟩ := hf 2 f2 rfl
  obtain ⟨y3, h3, gh3⟩ := hf 3 f3 rfl
  obtain ⟨y4, h4, gh4⟩ := hf 4 f4 rfl
  obtain ⟨y5, h5, gh5⟩ := hf 5 f5 rfl
  obtain ⟨y6, h6, gh6⟩ := hf 6 f6 rfl
  obtain ⟨y7, h7, gh7⟩ := hf 7 f7 rfl
  obtain ⟨y8, h8, gh8⟩ := hf 8 f8 rfl
  obtain ⟨y9, h9, gh9⟩ := hf 9 f9 rfl
  obtain ⟨y10, h10, gh10⟩ := hf 10 f10 rfl
  obtain ⟨y11, h11, gh11⟩ := hf 11 f11 rfl
  obtain ⟨y12, h12, gh12⟩ := hf 12 f12 rfl
  rw [o0, t0, cellsI] at h0
  rw [o1, t1, cellsI] at h1
  rw [o2, t2, cellsI] at h2
  rw [o3, t3, cellsI] at h3
  rw [o4, t4, cellsI] at h4
  rw [o5, t5, cellsI] at h5
  rw [o6, t6, cellsI] at h6
  rw [o7, t7, cellsOp] at h7
  rw [o8, t8, cellsI] at h8
  rw [o9, t9, cellsI] at h9
  rw [o10, t10, cellsEn] at h10
  rw [o11, t11, cellsTs] at h11
  rw [o12, t12, cellsDs] at h12
  obtain ⟨i0, e0, _, _⟩ := DataW.trod_int Try.underlying3 h0
  obtain ⟨i1, e1, _, _⟩ := DataW.trod_int Try.underlying3 h1
  obtain ⟨i2, e2, _, _⟩ := DataW.trod_int Try.underlying3 h2
  obtain ⟨i3, e3, _, _⟩ := DataW.trod_int Try.underlying3 h3
  obtain ⟨i4, e4, _, _⟩ := DataW.trod_int Try.underlying3 h4
  obtain ⟨i5, e5, _, _⟩ := DataW.trod_int Try.underlying3 h5
  obtain ⟨i6, e6, _, _⟩ := DataW.trod_int Try.underlying3 h6
  obtain ⟨op, e7⟩ := trod_opr h7
  obtain ⟨i8, e8, _, _⟩ := DataW.trod_int Try.underlying3 h8
  obtain ⟨i9, e9, _, _⟩ := DataW.trod_int Try.underlying3 h9
  obtain ⟨ek, e10⟩ := trod_en h10
  obtain ⟨A, c, ts, e11, r11, _, l11⟩ := trod_row (en := txC) (k := 4) (fun _ => rfl) (by omega) Try.underlying22 cellsTx bytesTx (Q := fun _ => True) trod_tx (by rw [← t11]; exact gh11 hL) h11
  obtain ⟨B, d, ds, e12, r12, _, l12⟩ := trod_row (en := diC) (k := 2) (fun _ => rfl) (by omega) Try.underlying29 cellsDi bytesDi (Q := fun _ => True) trod_di (by rw [← t12]; exact gh12 hL) h12
  simp at e0 e1 e2 e3 e4 e5 e6 e7 e8 e9 e10 e11 e12
  obtain ⟨e70, e71, e72, e73⟩ := e7
  obtain ⟨e100, e101, e102⟩ := e10
  refine ⟨⟨⟨i0, i1, i2, i3, i4, i5, i6, op, i8, i9, ek, ts, ds⟩, A, c, B, d⟩, ?_, ⟨r11, r12, l11, l12⟩⟩
  rw [e0, e1, e2, e3, e4, e5, e6, e70, e71, e72, e73, e8, e9, e100, e101, e102, e11, e12]
  rfl
set_option maxRecDepth 100000 in
/-- A record, opened. -/
theorem open_rec {r : Reach} {b0 : Nat} {v : Value} {d : DataW H} {ps : List MemPlace} (hval : Value.okWide Try.prog w r b0 31 v) (hd : DataW.Trod enc Try.prog w base spare held 31 v d ps) (hL : Light 31 d) :
    ∃ p : PRec, v = recV p.r (.slice p.A p.r.txns.length p.c) (.slice p.B p.r.dirty.length p.d) ∧ PRecR w p := by
  obtain ⟨f0, f1, f2, f3, f4, f5, f6, f7, f8, f9, f10, f11, f12, hu, _⟩ := reFields
  obtain ⟨cs, rfl, hsz⟩ := okWide_struct hu hval
  obtain ⟨fuel, hf⟩ := hd
  obtain ⟨p, hc, hR⟩ := trod_rec _ _ _ hf hL
  refine ⟨p, ?_, hR⟩
  have hc2 : cs.toList = recC p := by simpa [Value.cells] using hc
  show Value.agg cs = .agg _
  congr 1
  exact Array.toList_inj.1 hc2
end
end Go.Proofs.Ythfglhafphfhiaa
/- of TxnFr -/
namespace Go.Proofs.Ythfglhafphfhiaa
open Go.ChangeShapes Go.WideShapes Go.ChangeAt Go.RowKit
section
variable {H : Type} {enc : TypeId × Value → H} {w : World} {base : Nat} {spare : Nat → Bool} {held : Bool}
/-- A row of transactions takes no more bytes than an argument may. -/
theorem txs_light {fuel : Nat} {cs : List Value} {x : DataW H × List MemPlace} (hL : Light 22 x.1) (h : DataW.trod enc Try.prog w base spare held fuel 22 cs = some x) : ∃ A n c, cs = [.slice A n c] ∧ n ≤ 4398046510976 := by
  rcases Deep.open_slice Try.underlying22 h with ⟨hcs, _⟩ | ⟨a', len', cap', m, n, D, Pl, hcs, hb, hl, hm, hmm, hx, hall⟩
  · exact ⟨_, _, _, hcs, by simp⟩
  · refine ⟨_, _, _, hcs, ?_⟩
    rw [hx] at hL
    have h1 := hL _ (by unfold DataW.weights; rw [Try.underlying22]; exact List.mem_cons_self ..)
    rw [List.length_map, List.length_range] at h1
    have hb : Try.prog.bytesOf 66 = 32 := by decide +kernel
    rw [hb] at h1
    have h2 : reachBytes = 140737488351232 := rfl
    omega
set_option maxRecDepth 100000 in
/-- A row of transactions, opened. -/
theorem open_txns {r : Reach} {b0 : Nat} {v : Value} {d : DataW H} {ps : List MemPlace} (hval : Value.okWide Try.prog w r b0 22 v) (hd : DataW.Trod enc Try.prog w base spare held 22 v d ps) (hL : Light 22 d) :
    ∃ (A : Option Addr) (c : Nat) (l : List Rc.TxnAt), v = .slice A l.length c ∧ Reads w A c l.length (l.flatMap txC) ∧ l.length ≤ 4398046510976 := by
  obtain ⟨a, len, cap, rfl⟩ := okWide_slice Try.underlying22 hval
  obtain ⟨fuel, hf⟩ := hd
  obtain ⟨A, c, l, h1, h2, _, _⟩ := trod_row (en := txC) (k := 4) (fun _ => rfl) (by omega) Try.underlying22 cellsTx bytesTx (Q := fun _ => True) trod_tx hL hf
  obtain ⟨A2, n2, c2, h3, h4⟩ := txs_light hL hf
  have h5 : [Value.slice A l.length c] = [.slice A2 n2 c2] := h1.symm.trans h3
  have h6 : l.length = n2 := by simp at h5; exact h5.2.1
  exact ⟨A, c, l, by simpa [Value.cells] using h1, h2, by omega⟩
end
end Go.Proofs.Ythfglhafphfhiaa
/- Append, Clone, Delete, Note of transactions, at any length. -/
namespace Go.Proofs.Ythfglhafphfhiaa
open Go.RowKit
theorem wp_appRw {P : Program} {o : Oper} {a : Act} {K : Act → World → Prop} {Q : Exit → Act → World → Prop} (w : World) (s x : Operand) (t e : TypeId) (i0 : TypeInfo) (z : Value) (size bytes : Nat)
    (ht : P.underlying t = some (.slice e)) (hi : P.info? e = some i0) (hz : i0.zero = some z) (hsz : i0.size = size) (hby : i0.bytes = bytes) (hzc : z.cells.size = size) (hpos : 0 < size)
    (ho : o.op = .call { callee := .builtin .append, args := #[s, x], argTypes := #[t, t] })
    (B : Nat) (v : Value) (n : Nat) (xs : List Value) (hs : a.eval s = v) (hown : w.ownsRow B e size v n xs) (A : Option Addr) (m c : Nat) (ys : List Value) (hx : a.eval x = .slice A m c) (hy : Reads w A c m ys) (hyl : ys.length = m * size) (h1 : ∀ u ∈ ys, u.oneCell' = true)
    (hlen : n + m ≤ 4398046511104) (hbs : bytes ≤ 32) (hbase : B ≤ w.heap.size)
    (h : ∀ v' w', w'.ownsRow B e size v' (n + m) (xs ++ ys) → w.grownBy w' v.ownBlock → Below B w w' → K (a.put o.dst v') w') : o.wp P a w K Q := by
  rcases A with _ | ad
  · have hn : m = 0 := by
      rcases Nat.eq_zero_or_pos m with h0 | h0
      · exact h0
      · obtain ⟨b, off, e, _⟩ := hy h0
        cases e
    subst hn
    have hys : ys = [] := List.eq_nil_of_length_eq_zero (by simpa using hyl)
    subst hys
    have hrun := run_app_nil (ty := o.type) ht hi hown c
    unfold Oper.wp execOp
    simp only [ho, resolve, invoke, builtin, Sem.run_bind, Sem.run_pure, Result.andThen_ok, List.map_toArray, List.map_cons, List.map_nil, hs, hx, hrun]
    exact h v w (by simpa using hown) (World.grownBy.refl w _) (Below.refl _ _)
  · refine wp_append_own w s x _ ho B e i0 z size bytes ht hi hz hsz hby hzc hpos v n xs hs hown ad m c ys hx hyl ?_ h1 (by simp only [maxLen]; omega) ?_ hbase ?_
    · intro j u hu
      have hpos : 0 < m := by
        have := (List.getElem?_eq_some_iff.1 hu).1
        rcases Nat.eq_zero_or_pos m with h0 | h0
        · subst h0; rw [Nat.zero_mul] at hyl; omega
        · exact h0
      obtain ⟨b, off, e, _, _, hE⟩ := hy hpos
      injection e with e
      subst e
      rw [show (⟨b, off, none⟩ : Addr).add j = ⟨b, off + j, none⟩ from Addr.add_mid b off j]
      exact hE j u hu
    · have : (n + m) * bytes ≤ 4398046511104 * 32 := Nat.mul_le_mul hlen hbs
      omega
    · intro v' w' h1 h2 _
      exact h v' w' h1 h2 ((Below.refl _ _).grown h2 hbase (fun k hk => (hown.lt k hk).1))
theorem wp_pushW {P : Program} {o : Oper} {a : Act} {K : Act → World → Prop} {Q : Exit → Act → World → Prop} (w : World) (s x : Operand) (t e : TypeId) {z : Value} {size bytes : Nat}
    (ht : P.underlying t = some (.slice e)) (hi : (P.info? e).map (fun i => (i.zero, i.size, i.bytes)) = some (some z, size, bytes)) (hzc : z.cells.size = size) (hpos : 0 < size) (hby : bytes ≤ 32)
    (ho : o.op = .call { callee := .builtin .append, args := #[s, x], argTypes := #[t, t] })
    (B : Nat) (v : Value) (n : Nat) (xs : List Value) (hs : a.eval s = v) (hown : w.ownsRow B e size v n xs) (g : Nat) (cs : List Value) (T : TypeId) (hx : a.eval x = .slice (some ⟨g, 0, none⟩) 1 1) (hg : w.heap[g]? = some (.cells cs.toArray T (0, 0)))
    (hcl : cs.length = size) (h1 : ∀ u ∈ cs, u.oneCell' = true) (hlen : n + 1 ≤ 4398046511104) (hbase : B ≤ w.heap.size)
    (h : ∀ v' w', w'.ownsRow B e size v' (n + 1) (xs ++ cs) → w.grownBy w' v.ownBlock → Below B w w' → K (a.put o.dst v') w') : o.wp P a w K Q := by
  obtain ⟨i0, hi, hz0, hz1, hz2⟩ := info_parts hi
  exact wp_appRw w s x t e i0 _ size bytes ht hi hz0 hz1 hz2 hzc hpos ho B v n xs hs hown _ 1 1 cs hx (reads_blk (cs := cs) hg (Nat.le_refl _)) (by omega) h1 hlen hby hbase h
theorem wpList_pushW {P : Program} {ops : Array Oper} {rest : List Oper} {o : Oper} {a : Act} {Q : Exit → Act → World → Prop} {w : World} (hw : Region.wanted o (yielded ops a.tmps) = true) (s x : Operand) (t e : TypeId) {z : Value} {size bytes : Nat}
    (ht : P.underlying t = some (.slice e)) (hi : (P.info? e).map (fun i => (i.zero, i.size, i.bytes)) = some (some z, size, bytes)) (hzc : z.cells.size = size) (hpos : 0 < size) (hby : bytes ≤ 32)
    (ho : o.op = .call { callee := .builtin .append, args := #[s, x], argTypes := #[t, t] })
    (B : Nat) (v : Value) (n : Nat) (xs : List Value) (hs : a.eval s = v) (hown : w.ownsRow B e size v n xs) (g : Nat) (cs : List Value) (T : TypeId) (hx : a.eval x = .slice (some ⟨g, 0, none⟩) 1 1) (hg : w.heap[g]? = some (.cells cs.toArray T (0, 0)))
    (hcl : cs.length = size) (h1 : ∀ u ∈ cs, u.oneCell' = true) (hlen : n + 1 ≤ 4398046511104) (hbase : B ≤ w.heap.size)
    (h : ∀ v' w', w'.ownsRow B e size v' (n + 1) (xs ++ cs) → w.grownBy w' v.ownBlock → Below B w w' → wpList P ops Q rest (a.put o.dst v') w') : wpList P ops Q (o :: rest) a w :=
  listWants hw fun _ hK => wp_pushW w s x t e ht hi hzc hpos hby ho B v n xs hs hown g cs T hx hg hcl h1 hlen hbase (fun v' w' a b c => hK _ _ (h v' w' a b c))
set_option maxRecDepth 100000 in
set_option maxHeartbeats 8000000 in
theorem tcloneW_any (l : List Rc.TxnAt) (hl : l.length ≤ 4398046510976) (A : Option Addr) (c : Nat) (w : World) (hr : TxR w A c l) :
    Calls Try.prog 25 #[.slice A l.length c] w fun e w' => ∃ v, e = .returned v ∧ OwnL txC 4 66 w.heap.size w' v l ∧ Below w.heap.size w w' := by
  obtain ⟨i0, hi, hz0, hz1, hz2⟩ := info_parts info_tx
  have HR := Lib.hid hr
  cases A with
  | none =>
    have hl0 : l = [] := by
      rcases Nat.eq_zero_or_pos l.length with h0 | h0
      · exact List.eq_nil_of_length_eq_zero h0
      · obtain ⟨b, off, e, _⟩ := hr h0
        cases e
    subst hl0
    clear hr HR
    have hq : ∀ w, (binOp .eql 22 (.slice none 0 c) (.slice none 0 0)).run Try.prog w = .ok (.bool true) w := fun w => Lib.run_eql_slice_nil w 22 66 none 0 c 0 0 Try.underlying22
    simp only [List.length_nil]
    go_enter Try.func25, Try.ntmps25
    go_wp2_with fail
    go_ret
    exact ⟨_, rfl, ownNil _ _ _ _, Below.refl _ _⟩
  | some ad =>
    have HRD := Lib.hid (hr.below (allocB w (.cells #[] 66)))
    have hq : ∀ w, (binOp .eql 22 (.slice (some ad) l.length c) (.slice none 0 0)).run Try.prog w = .ok (.bool false) w := fun w => Lib.run_eql_slice_nil w 22 66 (some ad) l.length c 0 0 Try.underlying22
    clear hr
    go_enter Try.func25, Try.ntmps25
    go_wp2_with (at_builtin; refine listWants (by kernel_rfl) fun K hK => wp_appRw (w.alloc (.cells #[] 66)) (.tmp 5) (.tmp 6) 22 66 i0 (.agg #[.int .i64 0, .int .i64 0, .int .i64 0, .bool false]) 4 32 Try.underlying22 hi hz0 hz1 hz2 rfl (by omega) rfl w.heap.size _ 0 [] rfl (ownEmpty w 66 4) (some ad) l.length c (l.flatMap txC) rfl HRD.out (by rw [flat_len txC_len]) (txC_all l) (by omega) (by omega) (by simp) ?_; intro v2 w2 ho hg hb; refine hK _ _ ?_)
    go_ret
    rw [List.nil_append, Nat.zero_add] at ho
    exact ⟨_, rfl, ho, (allocB w (.cells #[] 66)).trans hb⟩
set_option maxRecDepth 100000 in
set_option maxHeartbeats 8000000 in
theorem tdeleteW_any (l : List Rc.TxnAt) (hl : l.length ≤ 4398046510976) (i : Nat) (hi : i < l.length) (B g c : Nat) (w : World) (ho : OwnL txC 4 66 B w (.slice (some ⟨g, 0, none⟩) l.length c) l) :
    Calls Try.prog 24 #[.slice (some ⟨g, 0, none⟩) l.length c, .int .i64 (i : Int), .int .i64 ((i : Int) + 1)] w fun e w' => ∃ v, e = .returned v ∧ OwnL txC 4 66 B w' v (l.take i ++ l.drop (i + 1)) ∧ Below B w w' := by
  obtain ⟨i0, hi0, hz0, hz1, hz2⟩ := info_parts info_tx
  obtain ⟨n, hn⟩ : ∃ n, n = l.length := ⟨_, rfl⟩
  obtain ⟨j, hj⟩ : ∃ j, j = i + 1 := ⟨_, rfl⟩
  have hjI : ((i : Int) + 1) = (j : Int) := by omega
  rw [hjI]
  have HO := Lib.hid ho
  obtain ⟨hxl, h2⟩ := ho
  rcases h2 with ⟨h0, _⟩ | ⟨g', cap, cur, hv, hgB, hh, hnc, hcap, hsz, htake⟩
  · cases h0
  injection hv with hv1 hv2 hv3
  injection hv1 with hv1
  injection hv1 with hv1 _ _
  subst hv1 hv3
  rw [← hn] at hnc htake hxl hl hi ⊢
  have HH := Lib.hid hh
  have HT := Lib.hid htake
  have hij : i ≤ j := by omega
  have hjn : j ≤ n := by omega
  have hne : ((i : Int) == (j : Int)) = false := by simp; omega
  have hijI : (i : Int) ≤ (j : Int) := by omega
  have hjnI : (j : Int) ≤ (n : Int) := by omega
  have hncI : (n : Int) ≤ (c : Int) := by omega
  have hjcI : (j : Int) ≤ (c : Int) := by omega
  have hicI : (i : Int) ≤ (c : Int) := by omega
  have hmx : c ≤ maxLen := hcap
  have HN := Lib.hid hn
  have HJ := Lib.hid hj
  clear hxl hh htake hcap HO hn hj hjI
  go_enter Try.func24, Try.ntmps24
  obtain ⟨news, hnews⟩ : ∃ news, news = (l.drop j).flatMap txC := ⟨_, rfl⟩
  have hnl : news.length = (n - j) * 4 := by rw [hnews, flat_len txC_len, List.length_drop, HN.out]
  have HNE := Lib.hid hnews
  have H1C := Lib.hid (show ∀ u ∈ news, u.oneCell' = true from by rw [hnews]; exact txC_all _)
  obtain ⟨AD, hAD, hsrc⟩ : ∃ AD : Addr, (if c = j then (some ⟨g, 0, none⟩ : Option Addr) else some ⟨g, j * 4, none⟩) = some AD ∧ ∀ t u, news[t]? = some u → w.drew.cell? (AD.add t) = some u := by
    by_cases hcj : c = j
    · refine ⟨_, by rw [if_pos hcj], fun t u hu => ?_⟩
      have h0 : news.length = 0 := by rw [hnl]; omega
      rw [List.length_eq_zero_iff.1 h0] at hu
      simp at hu
    · refine ⟨_, by rw [if_neg hcj], fun t u hu => ?_⟩
      have ht : t < (n - j) * 4 := by rw [← hnl]; exact (List.getElem?_eq_some_iff.1 hu).1
      rw [Addr.add_mid]
      show w.cell? ⟨g, j * 4 + t, none⟩ = some u
      rw [blkCell HH.out, ← hu, hnews]
      have h5 : (l.flatMap txC)[j * 4 + t]? = ((l.drop j).flatMap txC)[t]? := by
        have h6 : l.flatMap txC = (l.take j).flatMap txC ++ (l.drop j).flatMap txC := by rw [← List.flatMap_append, List.take_append_drop]
        have h7 : ((l.take j).flatMap txC).length = j * 4 := by rw [flat_len txC_len, List.length_take]; have := HN.out; omega
        rw [h6, List.getElem?_append_right (by omega), h7, Nat.add_sub_cancel_left]
      rw [← h5, ← HT.out, List.getElem?_take, if_pos (by omega), Array.getElem?_toList]
  have HSRC := Lib.hid hsrc
  have HSP := Lib.hid (show ∀ t, t < news.length → (w.drew.cell? ⟨g, 0 + i * 4 + t, none⟩).isSome = true ∧ w.drew.frozen? ⟨g, 0 + i * 4 + t, none⟩ = false from fun t ht => by
    rw [hnl] at ht
    refine ⟨?_, blkFrozen (show w.drew.heap[g]? = _ from HH.out) _⟩
    show (w.cell? ⟨g, 0 + i * 4 + t, none⟩).isSome = true
    rw [blkCell HH.out, Array.getElem?_eq_getElem (by omega)]
    rfl)
  obtain ⟨m, hm⟩ : ∃ m, m = i + (n - j) := ⟨_, rfl⟩
  have hmn : m < n := by have := HJ.out; omega
  have hmn1 : m + 1 = n := by have := HJ.out; omega
  obtain ⟨W1, hW1⟩ : ∃ W1, W1 = w.drew.setCells g (0 + i * 4) news := ⟨_, rfl⟩
  obtain ⟨cur1, k1, k2, k3⟩ := setCells_blk news (0 + i * 4) cur w.drew HH.out
  rw [← hW1] at k1
  have hcl := fun ty => run_clear_tx W1 g (m * 4) (n - m) (c - m) (by omega) (fun t ht => by rw [blkCell k1, Array.getElem?_eq_getElem (by omega)]; rfl) (fun t ht => blkFrozen k1 _) ty
  have HK1 := Lib.hid k1
  have HK2 := Lib.hid k2
  have HK3 := Lib.hid k3
  have HW1 := Lib.hid hW1
  have HM := Lib.hid hm
  have HNL := Lib.hid hnl
  have hroom : i + (n - j) ≤ c := by omega
  have hmc : (m : Int) ≤ (n : Int) := by omega
  have hmcc : (m : Int) ≤ (c : Int) := by omega
  have hmn2 : ¬ c = m := by omega
  clear hnews hsrc hm hmn1 hW1 k1 k2 k3 hnl hmn
  go_upto_region 5 with fail
  refine wp_region_held_drew (S := (fun _ => True)) (by kernel_rfl) ?_ (fun hHeld => ?_)
  · trivial
  refine tkW 0 (some 20) (v := ?_) rfl ?_ ?_
  rotate_left
  · intro u hSu; clear hSu; go_simp; (try with_reducible rfl)
  try simp only [Act.put, List.setIfInBounds_toArray, List.set_cons_zero, List.set_cons_succ]
  refine tkW 1 (some 21) (v := ?_) rfl ?_ ?_
  rotate_left
  · intro u hSu; clear hSu; go_simp; (try with_reducible rfl)
  try simp only [Act.put, List.setIfInBounds_toArray, List.set_cons_zero, List.set_cons_succ]
  refine tkW 2 (some 22) (v := ?_) rfl ?_ ?_
  rotate_left
  · intro u hSu; clear hSu; go_simp; (try with_reducible rfl)
  try simp only [Act.put, List.setIfInBounds_toArray, List.set_cons_zero, List.set_cons_succ]
  refine tkW 3 (some 23) (v := ?_) rfl ?_ ?_
  rotate_left
  · intro u hSu; clear hSu; go_simp; (try with_reducible rfl)
  try simp only [Act.put, List.setIfInBounds_toArray, List.set_cons_zero, List.set_cons_succ]
  refine tkW 4 (some 24) (v := ?_) rfl ?_ ?_
  rotate_left
  · intro u hSu; clear hSu; go_simp; (try with_reducible rfl)
  try simp only [Act.put, List.setIfInBounds_toArray, List.set_cons_zero, List.set_cons_succ]
  refine tkW 5 (some 25) (v := ?_) rfl ?_ ?_
  rotate_left
  · intro u hSu; clear hSu; go_simp; (try with_reducible rfl)
  try simp only [Act.put, List.setIfInBounds_toArray, List.set_cons_zero, List.set_cons_succ]
  refine rdH 6 (some 26) rfl (fun K hK => ?_)
  try rw [hAD]
  refine step_append_room rfl (.tmp 22) (.tmp 25) 22 rfl 66 i0 4 Try.underlying22 hi0 hz1 g 0 i c rfl AD (n - j) (c - j) news rfl HNL.out HSRC.out H1C.out hroom HSP.out ?_
  rw [← HW1.out, ← HM.out]
  refine hK.out _ _ ?_ (fun hHeld => ?_)
  · trivial
  clear hK K
  try simp only [Act.put, List.setIfInBounds_toArray, List.set_cons_zero, List.set_cons_succ]
  refine tkW 7 (some 0) (v := ?_) rfl ?_ ?_
  rotate_left
  · intro u hSu; clear hSu; go_simp; (try with_reducible rfl)
  try simp only [Act.put, List.setIfInBounds_toArray, List.set_cons_zero]
  refine wpAnyH_done (by kernel_rfl) ?_ _
  clear hHeld
  go_wp2_with fail
  go_ret
  obtain ⟨cur2, q1, q2, q3⟩ := setCells_blk (txZ (n - m)) (m * 4) cur1 W1 HK1.out
  have hnn := HN.out
  have hjj := HJ.out
  have hmm := HM.out
  have hk2 := HK2.out
  refine ⟨_, rfl, ?_, ?_⟩
  · have hlen : (l.take i ++ l.drop (i + 1)).length = m := by rw [List.length_append, List.length_take, List.length_drop]; omega
    show World.ownsRow _ B 66 4 _ (l.take i ++ l.drop (i + 1)).length ((l.take i ++ l.drop (i + 1)).flatMap txC)
    rw [hlen]
    refine ⟨by rw [flat_len txC_len, hlen], .inr ⟨g, c, cur2, rfl, hgB, q1, by omega, hmx, by rw [q2, hk2]; exact hsz, ?_⟩⟩
    have e1 : ((l.take i).flatMap txC).length = i * 4 := by rw [flat_len txC_len, List.length_take]; omega
    have e2 : l.flatMap txC = (l.take i).flatMap txC ++ (l.drop i).flatMap txC := by rw [← List.flatMap_append, List.take_append_drop]
    refine List.ext_getElem? fun t => ?_
    rw [List.getElem?_take]
    by_cases ht : t < m * 4
    · rw [if_pos ht, Array.getElem?_toList, q3, if_neg (by omega), HK3.out, List.flatMap_append]
      by_cases hti : t < i * 4
      · rw [if_neg (by omega), List.getElem?_append_left (by omega)]
        have h8 := congrArg (fun L => L[t]?) HT.out
        simp only [List.getElem?_take] at h8
        rw [if_pos (by omega), Array.getElem?_toList, e2, List.getElem?_append_left (by omega)] at h8
        exact h8
      · have hnl := HNL.out
        rw [if_pos (by omega), List.getElem?_append_right (by omega), e1, HNE.out, hjj]
        congr 1
        omega
    · rw [if_neg ht, List.getElem?_eq_none (by rw [flat_len txC_len, hlen]; omega)]
  · rw [HW1.out]
    exact (((Below.refl B w).drew).trans (setCells_below hgB _ _ _)).trans (setCells_below hgB _ _ _)
set_option maxRecDepth 100000 in
set_option maxHeartbeats 8000000 in
theorem tnoteW_any (l : List Rc.TxnAt) (hl : l.length ≤ 4398046510976) (A : Option Addr) (c : Nat) (r : Rc.Rec) (AT AD : Option Addr) (n1 c1 m1 d1 : Nat) (w : World) (hr : TxR w A c l) :
    Calls Try.prog 8 #[.slice A l.length c, recV r (.slice AT n1 c1) (.slice AD m1 d1)] w (NoteOut (Tx.noteT l r) A w) := by
  have HR := Lib.hid hr
  have HSAME := Lib.hid (fun w' (h : Tx.noteT l r = l) (hb : Below w.heap.size w w') => show NoteOut (Tx.noteT l r) A w (.returned (.slice A l.length c)) w' from by rw [h]; exact ⟨A, c, rfl, hr.below hb, .inl rfl, hb⟩)
  have HOWN := Lib.hid (fun (M : List Rc.TxnAt) (g N c B : Nat) w' (h : Tx.noteT l r = M) (ho : w'.ownsRow B 66 4 (.slice (some ⟨g, 0, none⟩) N c) N (M.flatMap txC)) (hN : M.length = N) (hB : w.heap.size ≤ B) (hb : Below w.heap.size w w') => show NoteOut (Tx.noteT l r) A w (.returned (.slice (some ⟨g, 0, none⟩) N c)) w' from by rw [h]; exact note_own ho hN hB hb)
  have HDEL := Lib.hid (fun (M : List Rc.TxnAt) (v : Value) (B : Nat) w' (h : Tx.noteT l r = M) (ho : OwnL txC 4 66 B w' v M) (hB : w.heap.size ≤ B) (hb : Below w.heap.size w w') => show NoteOut (Tx.noteT l r) A w (.returned v) w' from by
    rw [h]
    obtain ⟨A2, c2, rfl⟩ := ownLen ho
    exact ⟨_, _, rfl, own_reads ho, .inr ((NewT.own ho).mono hB), hb⟩)
  have N0 := Lib.hid (@Tx.noteT_no l r)
  have N1 := Lib.hid (@Tx.noteT_gone l r)
  have N2 := Lib.hid (@Tx.noteT_new l r)
  have N3 := Lib.hid (fun i => @Tx.noteT_end l r i)
  have N4 := Lib.hid (fun i => @Tx.noteT_old l r i)
  have HPL := Lib.hid (fun n W (hb : Below w.heap.size w W) => tplace_any l n (by omega) A c W (hr.below hb))
  have HCL := Lib.hid (fun W (hb : Below w.heap.size w W) => tcloneW_any l (by omega) A c W (hr.below hb))
  generalize Tx.noteT l r = R at *
  generalize NoteOut R A w = Q at HSAME HOWN HDEL ⊢
  clear hr
  obtain ⟨lsn, prev, txn, kind, page, next, nu, ⟨ok, os, oo, on⟩, how, root, ⟨ek, ep, es⟩, ts, ds⟩ := r
  dsimp only [recV, recA]
  obtain ⟨W0, hW0⟩ : ∃ W, W = w.alloc (.cells #[.int .i64 lsn, .int .i64 prev, .int .i64 txn, .int .i64 kind, .int .i64 page, .int .i64 next, .int .i64 nu, .int .i64 ok, .int .i64 os, .string oo, .string on, .int .i64 how, .int .i64 root, .string ek, .int .i64 ep, .int .i64 es, .slice AT n1 c1, .slice AD m1 d1] 31) := ⟨_, rfl⟩
  have H0 := Lib.hid (show W0.heap[w.heap.size]? = some (.cells #[.int .i64 lsn, .int .i64 prev, .int .i64 txn, .int .i64 kind, .int .i64 page, .int .i64 next, .int .i64 nu, .int .i64 ok, .int .i64 os, .string oo, .string on, .int .i64 how, .int .i64 root, .string ek, .int .i64 ep, .int .i64 es, .slice AT n1 c1, .slice AD m1 d1] 31 (0, 0)) from by rw [hW0]; exact heap_alloc_new _ _)
  have B0 := Lib.hid (show Below w.heap.size w W0 from by rw [hW0]; exact allocB _ _)
  have hc0 := blkCell H0.out
  by_cases hno : Tx.noted ⟨lsn, prev, txn, kind, page, next, nu, ⟨ok, os, oo, on⟩, how, root, ⟨ek, ep, es⟩, ts, ds⟩
  rotate_left
  · have HS := Lib.hid (N0.out hno)
    unfold Tx.noted at hno
    simp only at hno
    clear N0 N1 N2 N3 N4 HPL HCL HOWN HDEL HR
    by_cases h1 : txn < 1
    · go_enter Try.func8, Try.ntmps8
      go_upto_region 1 with fail
      rw [← hW0]
      clear hW0
      go_wp2_with fail
      exact HSAME.out _ HS.out B0.out
    by_cases h2 : kind < 1
    · go_enter Try.func8, Try.ntmps8
      go_upto_region 1 with fail
      rw [← hW0]
      clear hW0
      go_wp2_with fail
      exact HSAME.out _ HS.out B0.out
    by_cases h3 : kind = 8
    · have h3' : (kind == 8) = true := by simpa using h3
      clear hno h3
      go_enter Try.func8, Try.ntmps8
      go_upto_region 1 with fail
      rw [← hW0]
      clear hW0
      go_wp2_with fail
      exact HSAME.out _ HS.out B0.out
    · have h3' : (kind == 8) = false := by simpa using h3
      have h4 : 9 ≤ kind := by omega
      clear hno h3
      go_enter Try.func8, Try.ntmps8
      go_upto_region 1 with fail
      rw [← hW0]
      clear hW0
      go_wp2_with fail
      exact HSAME.out _ HS.out B0.out
  have HNO := Lib.hid hno
  unfold Tx.noted at hno
  simp only at hno
  have h1 : ¬ txn < 1 := by omega
  have h2 : ¬ kind < 1 := by omega
  have h3 : (kind == 8) = false := by simp; omega
  have h4 : ¬ 9 ≤ kind := by omega
  have HKR := Lib.hid (show 1 ≤ kind ∧ kind ≤ 7 from hno.2)
  have HPL0 := HPL.out txn W0 B0.out
  unfold PlaceOut at HPL0
  clear N0 hno
  cases hp : Tx.placeT l txn with
  | none =>
    rw [hp] at HPL0
    simp only [Tx.placeI] at HPL0
    by_cases hk7 : kind = 7
    · have HS := Lib.hid (N1.out HNO.out hp hk7)
      have hk7' : (kind == 7) = true := by simpa using hk7
      clear N1 N2 N3 N4 HPL HCL HOWN HDEL HR hp hk7
      go_enter Try.func8, Try.ntmps8
      go_upto_region 1 with fail
      rw [← hW0]
      clear hW0
      go_upto_region 4 with (go_at_call 23; (with_reducible refine HPL0.mono ?_); rintro e w1 ⟨rfl, hb1⟩; have hc1 := blkCell (blkOld H0.out hb1))
      have H1 := Lib.hid (blkOld H0.out hb1)
      have B1 := Lib.hid (joinB B0.out hb1)
      clear hb1 hc1 hc0
      have hc2 := blkCell H1.out
      go_wp2_with fail
      exact HSAME.out _ HS.out B1.out
    · have HRES := Lib.hid (N2.out HNO.out hp hk7)
      have hk7' : (kind == 7) = false := by simpa using hk7
      clear N1 N2 N3 N4 HPL HDEL HR hp HSAME
      go_enter Try.func8, Try.ntmps8
      go_upto_region 1 with fail
      rw [← hW0]
      clear hW0
      go_upto_region 4 with (go_at_call 23; (with_reducible refine HPL0.mono ?_); rintro e w1 ⟨rfl, hb1⟩; have hc1 := blkCell (blkOld H0.out hb1))
      have H1 := Lib.hid (blkOld H0.out hb1)
      have B1 := Lib.hid (joinB B0.out hb1)
      clear hb1 hc1 hc0
      have hc2 := blkCell H1.out
      have HCL1 := HCL.out w1 B1.out
      clear HCL
      have hlN : (l.length : Int) < ((l.length + 1 : Nat) : Int) := by omega
      go_upto_region 12 with (first
        | (go_at_call 25; (with_reducible refine HCL1.mono ?_); rintro e w2 ⟨v2, rfl, ho2, hb2⟩; obtain ⟨A2, c2, rfl⟩ := ownLen ho2; have H2 := Lib.hid (blkOld H1.out hb2); have hc3 := blkCell H2.out; have hs2 := hb2.size)
        | (at_builtin; refine wpList_pushW (by kernel_rfl) (.tmp 48) (.tmp 52) 22 66 Try.underlying22 info_tx rfl (by omega) (by omega) rfl w1.heap.size _ l.length (l.flatMap txC) rfl (ownBelow ho2 (allocB w2 _)) w2.heap.size (txC ⟨txn, 0, 0, false⟩) 66 rfl (heap_alloc_new w2 _) rfl (txC_one _) (by omega) (by simp; omega) ?_; intro v3 w3 ho3 hg3 hb3))
      have hs1 : w.heap.size + 1 ≤ w1.heap.size := by have := heapLt H1.out; omega
      have HX := Lib.hid (show w3.heap[w.heap.size]? = some (.cells #[.int .i64 lsn, .int .i64 prev, .int .i64 txn, .int .i64 kind, .int .i64 page, .int .i64 next, .int .i64 nu, .int .i64 ok, .int .i64 os, .string oo, .string on, .int .i64 how, .int .i64 root, .string ek, .int .i64 ep, .int .i64 es, .slice AT n1 c1, .slice AD m1 d1] 31 (0, 0)) from (hb3.block _ (by omega)).trans (blkOld H2.out (allocB w2 _)))
      have HB := Lib.hid (show Below w.heap.size w w3 from ((B1.out.trans (hb2.mono (by omega))).trans ((allocB w2 _).mono (by omega))).trans (hb3.mono (by omega)))
      obtain ⟨g, cap, rfl, hgB0⟩ := ownSome ho3 (by omega)
      have hgB : w.heap.size + 1 ≤ g := by omega
      obtain ⟨L, hL⟩ : ∃ L : List Rc.TxnAt, L = l ++ [⟨txn, 0, 0, false⟩] := ⟨_, rfl⟩
      have hLf : l.flatMap txC ++ txC ⟨txn, 0, 0, false⟩ = L.flatMap txC := by rw [hL, List.flatMap_append]; simp
      rw [hLf] at ho3
      obtain ⟨N, hN⟩ : ∃ N, N = l.length + 1 := ⟨_, rfl⟩
      rw [← hN] at ho3
      rw [← hN]
      obtain ⟨k, hk⟩ : ∃ k, k = l.length := ⟨_, rfl⟩
      rw [← hk]
      have HO := Lib.hid (ownMono ho3 hs1)
      have HLN := Lib.hid (show L.length = N from by rw [hL, hN, List.length_append, List.length_singleton])
      have hkL : k < L.length := by rw [hL, hk, List.length_append, List.length_singleton]; omega
      have HRES2 := Lib.hid (show R = L.set k (Tx.tuneT ⟨lsn, prev, txn, kind, page, next, nu, ⟨ok, os, oo, on⟩, how, root, ⟨ek, ep, es⟩, ts, ds⟩ L[k]) from by
        have e : L[k] = ⟨txn, 0, 0, false⟩ := by subst hL hk; simp
        rw [e, hL, hk]; exact HRES.out)
      clear HRES
      have HRES := HRES2
      clear HRES2 hL hLf hN hk ho3 hg3 hb3 ho2 hb2 hc3 hs2 hc2 H2 H1 B1 hs1 hlN hgB0 B0 H0 HCL1 HPL0
      obtain ⟨W, hWW⟩ : ∃ W, W = w3 := ⟨_, rfl⟩
      rw [← hWW] at HX HB HO
      rw [← hWW]
      clear hWW
      obtain ⟨t, ht⟩ : ∃ t, t = L[k] := ⟨_, rfl⟩
      obtain ⟨tn, tl, tx, td⟩ := t
      obtain ⟨s1, s2, s3⟩ := rowSet HO.out HLN.out k hkL 1 (by omega) (.int .i64 lsn) ⟨tn, lsn, tx, td⟩ (by rw [← ht]; rfl)
      rw [← ht] at s1
      simp only [txC] at s1
      have HT := Lib.hid ht
      have HO2 := Lib.hid s3
      have hcw := blkCell HX.out
      have hgne : w.heap.size ≠ g := by omega
      have hkN := HLN.out
      rw [hkN] at hkL
      have hkI : (k : Int) < (N : Int) := by omega
      have hk0 : (0 : Int) ≤ (k : Int) := by omega
      clear ht s3 hkN
      go_upto_region 14 with fail
      have HX2 := Lib.hid (show (W.setCell ⟨g, k * 4 + 1, none⟩ (.int .i64 lsn)).heap[w.heap.size]? = some (.cells #[.int .i64 lsn, .int .i64 prev, .int .i64 txn, .int .i64 kind, .int .i64 page, .int .i64 next, .int .i64 nu, .int .i64 ok, .int .i64 os, .string oo, .string on, .int .i64 how, .int .i64 root, .string ek, .int .i64 ep, .int .i64 es, .slice AT n1 c1, .slice AD m1 d1] 31 (0, 0)) from (Below.heap_setCell _ _ _ _ hgne).trans HX.out)
      have HB2 := Lib.hid (HB.out.trans ((Below.refl w.heap.size W).setCell (p := ⟨g, k * 4 + 1, none⟩) (by show w.heap.size ≤ g; omega) (.int .i64 lsn)))
      obtain ⟨W2, hW2⟩ : ∃ W2, W2 = W.setCell ⟨g, k * 4 + 1, none⟩ (.int .i64 lsn) := ⟨_, rfl⟩
      rw [← hW2] at HX2 HB2 HO2
      rw [← hW2]
      clear hW2 HX HB HO hcw s1 s2
      have hcw2 := blkCell HX2.out
      have HLN2 := Lib.hid (show (L.set k ⟨tn, lsn, tx, td⟩).length = N from by rw [List.length_set]; exact HLN.out)
      have HK2 := Lib.hid (show k < (L.set k ⟨tn, lsn, tx, td⟩).length from by have := HLN2.out; omega)
      have hsk : ∀ y, (L.set k ⟨tn, lsn, tx, td⟩).set k y = L.set k y := fun y => List.set_set ..
      have HGE := Lib.hid (show (L.set k ⟨tn, lsn, tx, td⟩)[k]'HK2.out = ⟨tn, lsn, tx, td⟩ from by simp)
      have HFIN := Lib.hid (fun y w' (hy : y = Tx.tuneT ⟨lsn, prev, txn, kind, page, next, nu, ⟨ok, os, oo, on⟩, how, root, ⟨ek, ep, es⟩, ts, ds⟩ ⟨tn, tl, tx, td⟩) (ho : w'.ownsRow (w.heap.size + 1) 66 4 (.slice (some ⟨g, 0, none⟩) N cap) N ((L.set k y).flatMap txC)) (hb : Below w.heap.size w w') => HOWN.out (L.set k y) g N cap (w.heap.size + 1) w' (by rw [hy, HT.out]; exact HRES.out) ho (by rw [List.length_set]; exact HLN.out) (by omega) hb)
      clear HRES HOWN HT
      have hkk : kind = 1 ∨ kind = 2 ∨ kind = 3 ∨ kind = 4 ∨ kind = 5 ∨ kind = 6 := by have := HKR.out; omega
      clear HKR h2 h3 h4 hk7 HNO
      rcases hkk with rfl | rfl | rfl | rfl | rfl | rfl
      · obtain ⟨u1, u2, u3⟩ := rowSet HO2.out HLN2.out k HK2.out 2 (by omega) (.int .i64 lsn) ⟨tn, lsn, lsn, td⟩ (by rw [HGE.out]; rfl)
        rw [HGE.out] at u1
        simp only [txC] at u1
        rw [hsk] at u3
        have HO3 := Lib.hid (HFIN.out ⟨tn, lsn, lsn, td⟩ _ rfl u3 (HB2.out.trans ((Below.refl w.heap.size W2).setCell (p := ⟨g, k * 4 + 2, none⟩) (by show w.heap.size ≤ g; omega) (.int .i64 lsn))))
        clear u3 hsk
        go_wp2_with fail
        exact HO3.out
      · obtain ⟨u1, u2, u3⟩ := rowSet HO2.out HLN2.out k HK2.out 2 (by omega) (.int .i64 lsn) ⟨tn, lsn, lsn, td⟩ (by rw [HGE.out]; rfl)
        rw [HGE.out] at u1
        simp only [txC] at u1
        rw [hsk] at u3
        have HO3 := Lib.hid (HFIN.out ⟨tn, lsn, lsn, td⟩ _ rfl u3 (HB2.out.trans ((Below.refl w.heap.size W2).setCell (p := ⟨g, k * 4 + 2, none⟩) (by show w.heap.size ≤ g; omega) (.int .i64 lsn))))
        clear u3 hsk
        go_wp2_with fail
        exact HO3.out
      · obtain ⟨u1, u2, u3⟩ := rowSet HO2.out HLN2.out k HK2.out 2 (by omega) (.int .i64 next) ⟨tn, lsn, next, td⟩ (by rw [HGE.out]; rfl)
        rw [HGE.out] at u1
        simp only [txC] at u1
        rw [hsk] at u3
        have HO3 := Lib.hid (HFIN.out ⟨tn, lsn, next, td⟩ _ rfl u3 (HB2.out.trans ((Below.refl w.heap.size W2).setCell (p := ⟨g, k * 4 + 2, none⟩) (by show w.heap.size ≤ g; omega) (.int .i64 next))))
        clear u3 hsk
        go_wp2_with fail
        exact HO3.out
      · obtain ⟨u1, u2, u3⟩ := rowSet HO2.out HLN2.out k HK2.out 2 (by omega) (.int .i64 next) ⟨tn, lsn, next, td⟩ (by rw [HGE.out]; rfl)
        rw [HGE.out] at u1
        simp only [txC] at u1
        rw [hsk] at u3
        have HO3 := Lib.hid (HFIN.out ⟨tn, lsn, next, td⟩ _ rfl u3 (HB2.out.trans ((Below.refl w.heap.size W2).setCell (p := ⟨g, k * 4 + 2, none⟩) (by show w.heap.size ≤ g; omega) (.int .i64 next))))
        clear u3 hsk
        go_wp2_with fail
        exact HO3.out
      · obtain ⟨u1, u2, u3⟩ := rowSet HO2.out HLN2.out k HK2.out 3 (by omega) (.bool true) ⟨tn, lsn, tx, true⟩ (by rw [HGE.out]; rfl)
        rw [HGE.out] at u1
        simp only [txC] at u1
        rw [hsk] at u3
        have HO3 := Lib.hid (HFIN.out ⟨tn, lsn, tx, true⟩ _ rfl u3 (HB2.out.trans ((Below.refl w.heap.size W2).setCell (p := ⟨g, k * 4 + 3, none⟩) (by show w.heap.size ≤ g; omega) (.bool true))))
        clear u3 hsk
        go_wp2_with fail
        exact HO3.out
      · have HO3 := Lib.hid (HFIN.out ⟨tn, lsn, tx, td⟩ _ rfl HO2.out HB2.out)
        clear hsk
        go_wp2_with fail
        exact HO3.out
  | some i =>
    rw [hp] at HPL0
    simp only [Tx.placeI] at HPL0
    obtain ⟨hi, -⟩ := Tx.placeT_some hp
    have hi0 : ¬ (i : Int) < 0 := by omega
    by_cases hk7 : kind = 7
    · have HS := Lib.hid (N3.out i HNO.out hp hk7)
      have hk7' : (kind == 7) = true := by simpa using hk7
      clear N1 N2 N3 N4 HPL HOWN HR hp hk7 HSAME
      go_enter Try.func8, Try.ntmps8
      go_upto_region 1 with fail
      rw [← hW0]
      clear hW0
      go_upto_region 4 with (go_at_call 23; (with_reducible refine HPL0.mono ?_); rintro e w1 ⟨rfl, hb1⟩; have hc1 := blkCell (blkOld H0.out hb1))
      have H1 := Lib.hid (blkOld H0.out hb1)
      have B1 := Lib.hid (joinB B0.out hb1)
      clear hb1 hc1 hc0
      have hc2 := blkCell H1.out
      have HCL1 := HCL.out w1 B1.out
      clear HCL
      have hwi : IntKind.i64.wrap ((i : Int) + 1) = (i : Int) + 1 := IntWalk.i64_in _ (by omega)
      go_wp2_with (first
        | (go_at_call 25; (with_reducible refine HCL1.mono ?_); rintro e w2 ⟨v2, rfl, ho2, hb2⟩; obtain ⟨g, cap, rfl, hgB⟩ := ownSome ho2 (by omega); have HD := Lib.hid (tdeleteW_any l (by omega) i hi w1.heap.size g cap w2 ho2))
        | (go_at_call 24; (with_reducible refine HD.out.mono ?_); rintro e w3 ⟨v3, rfl, ho3, hb3⟩))
      exact HDEL.out _ _ _ _ HS.out ho3 B1.out.size ((B1.out.trans (hb2.mono B1.out.size)).trans (hb3.mono B1.out.size))
    · have HRES := Lib.hid (N4.out i HNO.out hp hk7 hi)
      have hk7' : (kind == 7) = false := by simpa using hk7
      clear N1 N2 N3 N4 HPL HDEL HR hp HSAME
      go_enter Try.func8, Try.ntmps8
      go_upto_region 1 with fail
      rw [← hW0]
      clear hW0
      go_upto_region 4 with (go_at_call 23; (with_reducible refine HPL0.mono ?_); rintro e w1 ⟨rfl, hb1⟩; have hc1 := blkCell (blkOld H0.out hb1))
      have H1 := Lib.hid (blkOld H0.out hb1)
      have B1 := Lib.hid (joinB B0.out hb1)
      clear hb1 hc1 hc0
      have hc2 := blkCell H1.out
      have HCL1 := HCL.out w1 B1.out
      clear HCL
      go_upto_region 12 with (go_at_call 25; (with_reducible refine HCL1.mono ?_); rintro e w2 ⟨v2, rfl, ho2, hb2⟩)
      have hs1 : w.heap.size + 1 ≤ w1.heap.size := by have := heapLt H1.out; omega
      have HX := Lib.hid (blkOld H1.out hb2)
      have HB := Lib.hid (show Below w.heap.size w w2 from B1.out.trans (hb2.mono (by omega)))
      obtain ⟨g, cap, rfl, hgB0⟩ := ownSome ho2 (by omega)
      have hgB : w.heap.size + 1 ≤ g := by omega
      have ho2' := ownMono ho2 hs1
      obtain ⟨L, hL⟩ : ∃ L : List Rc.TxnAt, L = l := ⟨_, rfl⟩
      obtain ⟨N, hN⟩ : ∃ N, N = l.length := ⟨_, rfl⟩
      obtain ⟨k, hk⟩ : ∃ k, k = i := ⟨_, rfl⟩
      rw [← hN] at ho2'
      rw [← hN]
      rw [← hL] at ho2'
      rw [← hk]
      have HO := Lib.hid ho2'
      have HLN := Lib.hid (show L.length = N from by rw [hL, hN])
      have hkL : k < L.length := by rw [hL, hk]; exact hi
      have HRES2 := Lib.hid (show R = L.set k (Tx.tuneT ⟨lsn, prev, txn, kind, page, next, nu, ⟨ok, os, oo, on⟩, how, root, ⟨ek, ep, es⟩, ts, ds⟩ L[k]) from by
        subst hL hk; exact HRES.out)
      clear HRES
      have HRES := HRES2
      clear HRES2 hL hN hk ho2 ho2' hb2 hc2 H1 B1 hs1 hgB0 B0 H0 HCL1 HPL0 hi hi0
      obtain ⟨W, hWW⟩ : ∃ W, W = w2 := ⟨_, rfl⟩
      rw [← hWW] at HX HB HO
      rw [← hWW]
      clear hWW
      obtain ⟨t, ht⟩ : ∃ t, t = L[k] := ⟨_, rfl⟩
      obtain ⟨tn, tl, tx, td⟩ := t
      obtain ⟨s1, s2, s3⟩ := rowSet HO.out HLN.out k hkL 1 (by omega) (.int .i64 lsn) ⟨tn, lsn, tx, td⟩ (by rw [← ht]; rfl)
      rw [← ht] at s1
      simp only [txC] at s1
      have HT := Lib.hid ht
      have HO2 := Lib.hid s3
      have hcw := blkCell HX.out
      have hgne : w.heap.size ≠ g := by omega
      have hkN := HLN.out
      rw [hkN] at hkL
      have hkI : (k : Int) < (N : Int) := by omega
      have hk0 : (0 : Int) ≤ (k : Int) := by omega
      clear ht s3 hkN
      go_upto_region 14 with fail
      have HX2 := Lib.hid (show (W.setCell ⟨g, k * 4 + 1, none⟩ (.int .i64 lsn)).heap[w.heap.size]? = some (.cells #[.int .i64 lsn, .int .i64 prev, .int .i64 txn, .int .i64 kind, .int .i64 page, .int .i64 next, .int .i64 nu, .int .i64 ok, .int .i64 os, .string oo, .string on, .int .i64 how, .int .i64 root, .string ek, .int .i64 ep, .int .i64 es, .slice AT n1 c1, .slice AD m1 d1] 31 (0, 0)) from (Below.heap_setCell _ _ _ _ hgne).trans HX.out)
      have HB2 := Lib.hid (HB.out.trans ((Below.refl w.heap.size W).setCell (p := ⟨g, k * 4 + 1, none⟩) (by show w.heap.size ≤ g; omega) (.int .i64 lsn)))
      obtain ⟨W2, hW2⟩ : ∃ W2, W2 = W.setCell ⟨g, k * 4 + 1, none⟩ (.int .i64 lsn) := ⟨_, rfl⟩
      rw [← hW2] at HX2 HB2 HO2
      rw [← hW2]
      clear hW2 HX HB HO hcw s1 s2
      have hcw2 := blkCell HX2.out
      have HLN2 := Lib.hid (show (L.set k ⟨tn, lsn, tx, td⟩).length = N from by rw [List.length_set]; exact HLN.out)
      have HK2 := Lib.hid (show k < (L.set k ⟨tn, lsn, tx, td⟩).length from by have := HLN2.out; omega)
      have hsk : ∀ y, (L.set k ⟨tn, lsn, tx, td⟩).set k y = L.set k y := fun y => List.set_set ..
      have HGE := Lib.hid (show (L.set k ⟨tn, lsn, tx, td⟩)[k]'HK2.out = ⟨tn, lsn, tx, td⟩ from by simp)
      have HFIN := Lib.hid (fun y w' (hy : y = Tx.tuneT ⟨lsn, prev, txn, kind, page, next, nu, ⟨ok, os, oo, on⟩, how, root, ⟨ek, ep, es⟩, ts, ds⟩ ⟨tn, tl, tx, td⟩) (ho : w'.ownsRow (w.heap.size + 1) 66 4 (.slice (some ⟨g, 0, none⟩) N cap) N ((L.set k y).flatMap txC)) (hb : Below w.heap.size w w') => HOWN.out (L.set k y) g N cap (w.heap.size + 1) w' (by rw [hy, HT.out]; exact HRES.out) ho (by rw [List.length_set]; exact HLN.out) (by omega) hb)
      clear HRES HOWN HT
      have hkk : kind = 1 ∨ kind = 2 ∨ kind = 3 ∨ kind = 4 ∨ kind = 5 ∨ kind = 6 := by have := HKR.out; omega
      clear HKR h2 h3 h4 hk7 HNO
      rcases hkk with rfl | rfl | rfl | rfl | rfl | rfl
      · obtain ⟨u1, u2, u3⟩ := rowSet HO2.out HLN2.out k HK2.out 2 (by omega) (.int .i64 lsn) ⟨tn, lsn, lsn, td⟩ (by rw [HGE.out]; rfl)
        rw [HGE.out] at u1
        simp only [txC] at u1
        rw [hsk] at u3
        have HO3 := Lib.hid (HFIN.out ⟨tn, lsn, lsn, td⟩ _ rfl u3 (HB2.out.trans ((Below.refl w.heap.size W2).setCell (p := ⟨g, k * 4 + 2, none⟩) (by show w.heap.size ≤ g; omega) (.int .i64 lsn))))
        clear u3 hsk
        go_wp2_with fail
        exact HO3.out
      · obtain ⟨u1, u2, u3⟩ := rowSet HO2.out HLN2.out k HK2.out 2 (by omega) (.int .i64 lsn) ⟨tn, lsn, lsn, td⟩ (by rw [HGE.out]; rfl)
        rw [HGE.out] at u1
        simp only [txC] at u1
        rw [hsk] at u3
        have HO3 := Lib.hid (HFIN.out ⟨tn, lsn, lsn, td⟩ _ rfl u3 (HB2.out.trans ((Below.refl w.heap.size W2).setCell (p := ⟨g, k * 4 + 2, none⟩) (by show w.heap.size ≤ g; omega) (.int .i64 lsn))))
        clear u3 hsk
        go_wp2_with fail
        exact HO3.out
      · obtain ⟨u1, u2, u3⟩ := rowSet HO2.out HLN2.out k HK2.out 2 (by omega) (.int .i64 next) ⟨tn, lsn, next, td⟩ (by rw [HGE.out]; rfl)
        rw [HGE.out] at u1
        simp only [txC] at u1
        rw [hsk] at u3
        have HO3 := Lib.hid (HFIN.out ⟨tn, lsn, next, td⟩ _ rfl u3 (HB2.out.trans ((Below.refl w.heap.size W2).setCell (p := ⟨g, k * 4 + 2, none⟩) (by show w.heap.size ≤ g; omega) (.int .i64 next))))
        clear u3 hsk
        go_wp2_with fail
        exact HO3.out
      · obtain ⟨u1, u2, u3⟩ := rowSet HO2.out HLN2.out k HK2.out 2 (by omega) (.int .i64 next) ⟨tn, lsn, next, td⟩ (by rw [HGE.out]; rfl)
        rw [HGE.out] at u1
        simp only [txC] at u1
        rw [hsk] at u3
        have HO3 := Lib.hid (HFIN.out ⟨tn, lsn, next, td⟩ _ rfl u3 (HB2.out.trans ((Below.refl w.heap.size W2).setCell (p := ⟨g, k * 4 + 2, none⟩) (by show w.heap.size ≤ g; omega) (.int .i64 next))))
        clear u3 hsk
        go_wp2_with fail
        exact HO3.out
      · obtain ⟨u1, u2, u3⟩ := rowSet HO2.out HLN2.out k HK2.out 3 (by omega) (.bool true) ⟨tn, lsn, tx, true⟩ (by rw [HGE.out]; rfl)
        rw [HGE.out] at u1
        simp only [txC] at u1
        rw [hsk] at u3
        have HO3 := Lib.hid (HFIN.out ⟨tn, lsn, tx, true⟩ _ rfl u3 (HB2.out.trans ((Below.refl w.heap.size W2).setCell (p := ⟨g, k * 4 + 3, none⟩) (by show w.heap.size ≤ g; omega) (.bool true))))
        clear u3 hsk
        go_wp2_with fail
        exact HO3.out
      · have HO3 := Lib.hid (HFIN.out ⟨tn, lsn, tx, td⟩ _ rfl HO2.out HB2.out)
        clear hsk
        go_wp2_with fail
        exact HO3.out
end Go.Proofs.Ythfglhafphfhiaa
/- The walks over the reference's place, noted, Note. -/
namespace Go.Proofs.Ythfglhafphfhiaa
open Go.RowKit
theorem ownTake {w : World} {B size g n c : Nat} {e : TypeId} {xs : List Value} (h : w.ownsRow B e size (.slice (some ⟨g, 0, none⟩) n c) n xs) {i : Nat} (hi : i ≤ n) : w.ownsRow B e size (.slice (some ⟨g, 0, none⟩) i c) i (xs.take (i * size)) := by
  obtain ⟨hl, h2⟩ := h
  refine ⟨by rw [List.length_take, hl]; exact Nat.min_eq_left (Nat.mul_le_mul_right _ hi), ?_⟩
  rcases h2 with ⟨h0, _⟩ | ⟨g', cap, cur, hv, hg, hh, hn, hcap, hsz, ht⟩
  · cases h0
  · injection hv with hv1 hv2 hv3
    injection hv1 with hv1
    injection hv1 with hv1 _ _
    subst hv1 hv3
    refine .inr ⟨g, c, cur, rfl, hg, hh, Nat.le_trans hi hn, hcap, hsz, ?_⟩
    rw [← ht, List.take_take, Nat.min_eq_left (Nat.mul_le_mul_right _ hi)]
set_option maxRecDepth 100000 in
theorem rplace_any (l : List Rc.TxnAt) (n : Int) (hl : l.length ≤ 4398046510976) (A : Option Addr) (c : Nat) (w : World) (hr : TxR w A c l) :
    Calls Try.prog 26 #[.slice A l.length c, .int .i64 n] w (PlaceOut (Tx.placeT l n) w) := by
  have HR := Lib.hid hr
  have HY := Lib.hid (fun k w' (hk : k < l.length) (h1 : l[k].txn = n) (h2 : ∀ j (hj : j < k), l[j].txn ≠ n) (hb : Below w.heap.size w w') => show PlaceOut (Tx.placeT l n) w (.returned (.int .i64 (k : Int))) w' from by rw [Tx.placeT_at hk h1 h2]; exact ⟨rfl, hb⟩)
  have HZ := Lib.hid (fun w' (h : ∀ j (hj : j < l.length), l[j].txn ≠ n) (hb : Below w.heap.size w w') => show PlaceOut (Tx.placeT l n) w (.returned (.int .i64 (-1))) w' from by
    rw [Tx.placeT_no (fun t ht => by obtain ⟨j, hj, rfl⟩ := List.mem_iff_getElem.1 ht; exact h j hj)]; exact ⟨rfl, hb⟩)
  generalize PlaceOut (Tx.placeT l n) w = Q at HY HZ ⊢
  clear hr
  go_enter Try.func26, Try.ntmps26
  go_wp2_with fail
  go_loopw [5] (fun v wr => ∃ k : Nat, v = .int .i64 (k : Int) ∧ k ≤ l.length ∧ (∀ j (hj : j < k) (h : j < l.length), l[j].txn ≠ n) ∧ Below w.heap.size w wr) (fun v _ => l.length - (intOf v).toNat)
  case atStart => exact ⟨0, rfl, Nat.zero_le _, fun j hj => absurd hj (Nat.not_lt_zero _), Below.refl _ _⟩
  case round =>
    obtain ⟨k, rfl, hk, hno, hbw⟩ := hrel
    have HBW := Lib.hid hbw
    have HNO := Lib.hid hno
    clear hbw hno
    by_cases hlt : k < l.length
    · have hk0 : (0 : Int) ≤ (k : Int) := by omega
      have hk1 : (k : Int) < (l.length : Int) := by omega
      have hwk : IntKind.i64.wrap ((k : Int) + 1) = (k : Int) + 1 := IntWalk.i64_in _ (by omega)
      obtain ⟨b, o, rfl, hc, hbl, hcell⟩ := read_at txC_len (HR.out.below HBW.out) hlt
      have q := hcell 0 _ rfl
      simp only [Nat.add_zero] at q
      clear hcell
      by_cases he : l[k].txn = n
      · rw [he] at q
        have HE := Lib.hid (HY.out k wr hlt he (fun j hj => HNO.out j hj (by omega)) HBW.out)
        clear he
        go_wp2_with fail
        exact HE.out
      · have HNO2 := Lib.hid (show ∀ j (hj : j < k + 1) (h : j < l.length), l[j].txn ≠ n from fun j hj h => by
          rcases Nat.lt_or_ge j k with h1 | h1
          · exact HNO.out j h1 h
          · obtain rfl : j = k := by omega
            exact he)
        generalize l[k].txn = y at q he
        have he2 : (y == n) = false := by simpa using he
        clear he
        go_wp2_with fail
        go_roundw
        case rel => exact ⟨k + 1, by go_num, by omega, HNO2.out, HBW.out⟩
        case measure => simp [intOf]; omega
    · have hk1 : ¬ (k : Int) < (l.length : Int) := by omega
      have HE := Lib.hid (HZ.out wr (fun j hj => HNO.out j (by omega) hj) HBW.out)
      go_wp2_with fail
      exact HE.out
theorem rnoted_any (k : Int) (w : World) : Calls Try.prog 27 #[.int .i64 k] w fun e w' => e = .returned (.bool (decide (1 ≤ k ∧ k ≤ 7))) ∧ Below w.heap.size w w' := by
  by_cases h1 : 1 ≤ k
  · by_cases h2 : k ≤ 7
    · rw [decide_eq_true ⟨h1, h2⟩]
      go_enter Try.func27, Try.ntmps27
      go_wp2_with fail
      go_ret
      exact ⟨by simp, Below.refl _ _⟩
    · rw [decide_eq_false (fun h => h2 h.2)]
      go_enter Try.func27, Try.ntmps27
      go_wp2_with fail
      go_ret
      exact ⟨by simp, Below.refl _ _⟩
  · rw [decide_eq_false (fun h => h1 h.1)]
    go_enter Try.func27, Try.ntmps27
    go_wp2_with fail
    go_ret
    exact ⟨by simp, Below.refl _ _⟩
/-- What the reference's Note answers: a list. -/
def RNoteOut (l : List Rc.TxnAt) (w : World) (e : Ending) (w' : World) : Prop :=
  ∃ A' c', e = .returned (.slice A' l.length c') ∧ TxR w' A' c' l ∧ Below w.heap.size w w'
set_option maxRecDepth 100000 in
set_option maxHeartbeats 4000000 in
theorem rnote_any (l : List Rc.TxnAt) (hl : l.length ≤ 4398046510976) (A : Option Addr) (c : Nat) (r : Rc.Rec) (AT AD : Option Addr) (n1 c1 m1 d1 : Nat) (w : World) (hr : TxR w A c l) :
    Calls Try.prog 9 #[.slice A l.length c, recV r (.slice AT n1 c1) (.slice AD m1 d1)] w (RNoteOut (Tx.noteT l r) w) := by
  obtain ⟨i0, hi0, hz0, hz1, hz2⟩ := info_parts info_tx
  have HR := Lib.hid hr
  have HOUT := Lib.hid (fun (M : List Rc.TxnAt) (v : Value) (B : Nat) w' (h : Tx.noteT l r = M) (ho : w'.ownsRow B 66 4 v M.length (M.flatMap txC)) (hb : Below w.heap.size w w') => show RNoteOut (Tx.noteT l r) w (.returned v) w' from by
    rw [h]
    obtain ⟨A2, c2, rfl⟩ := ownLen ho
    exact ⟨_, _, rfl, own_reads ho, hb⟩)
  have HOWN := Lib.hid (fun (M : List Rc.TxnAt) (g N c B : Nat) w' (h : Tx.noteT l r = M) (ho : w'.ownsRow B 66 4 (.slice (some ⟨g, 0, none⟩) N c) N (M.flatMap txC)) (hN : M.length = N) (_ : w.heap.size ≤ B) (hb : Below w.heap.size w w') => show RNoteOut (Tx.noteT l r) w (.returned (.slice (some ⟨g, 0, none⟩) N c)) w' from by
    rw [h]
    subst hN
    exact ⟨_, _, rfl, own_reads ho, hb⟩)
  have N0 := Lib.hid (@Tx.noteT_no l r)
  have N1 := Lib.hid (@Tx.noteT_gone l r)
  have N2 := Lib.hid (@Tx.noteT_new l r)
  have N3 := Lib.hid (fun i => @Tx.noteT_end l r i)
  have N4 := Lib.hid (fun i => @Tx.noteT_old l r i)
  have HPL := Lib.hid (fun n W (hb : Below w.heap.size w W) => rplace_any l n hl A c W (hr.below hb))
  have HND := Lib.hid (fun k W => rnoted_any k W)
  generalize Tx.noteT l r = R at *
  generalize RNoteOut R w = Q at HOUT HOWN ⊢
  clear hr
  obtain ⟨lsn, prev, txn, kind, page, next, nu, ⟨ok, os, oo, on⟩, how, root, ⟨ek, ep, es⟩, ts, ds⟩ := r
  dsimp only [recV, recA]
  obtain ⟨W0, hW0⟩ : ∃ W, W = w.alloc (.cells #[.int .i64 lsn, .int .i64 prev, .int .i64 txn, .int .i64 kind, .int .i64 page, .int .i64 next, .int .i64 nu, .int .i64 ok, .int .i64 os, .string oo, .string on, .int .i64 how, .int .i64 root, .string ek, .int .i64 ep, .int .i64 es, .slice AT n1 c1, .slice AD m1 d1] 31) := ⟨_, rfl⟩
  have H0 := Lib.hid (show W0.heap[w.heap.size]? = some (.cells #[.int .i64 lsn, .int .i64 prev, .int .i64 txn, .int .i64 kind, .int .i64 page, .int .i64 next, .int .i64 nu, .int .i64 ok, .int .i64 os, .string oo, .string on, .int .i64 how, .int .i64 root, .string ek, .int .i64 ep, .int .i64 es, .slice AT n1 c1, .slice AD m1 d1] 31 (0, 0)) from by rw [hW0]; exact heap_alloc_new _ _)
  have B0 := Lib.hid (show Below w.heap.size w W0 from by rw [hW0]; exact allocB _ _)
  have HSZ := Lib.hid (show W0.heap.size = w.heap.size + 1 from by rw [hW0]; simp)
  have HRD := Lib.hid ((HR.out.below B0.out).below (allocB W0 (.cells #[] 66)))
  have HPL0 := Lib.hid (HPL.out txn)
  clear HPL
  by_cases hno : Tx.noted ⟨lsn, prev, txn, kind, page, next, nu, ⟨ok, os, oo, on⟩, how, root, ⟨ek, ep, es⟩, ts, ds⟩
  rotate_left
  · have HS := Lib.hid (N0.out hno)
    unfold Tx.noted at hno
    simp only at hno
    clear N0 N1 N2 N3 N4 HOWN
    by_cases h1 : txn < 1
    · generalize Tx.placeI (Tx.placeT l txn) = pk at HPL0
      clear hno
      go_enter Try.func9, Try.ntmps9
      go_upto_region 1 with fail
      rw [← hW0]
      clear hW0
      go_upto_region 2 with (at_builtin; refine listWants (by kernel_rfl) fun K hK => wp_appRw (W0.alloc (.cells #[] 66)) (.tmp 7) (.tmp 8) 22 66 i0 (.agg #[.int .i64 0, .int .i64 0, .int .i64 0, .bool false]) 4 32 Try.underlying22 hi0 hz0 hz1 hz2 rfl (by omega) rfl W0.heap.size _ 0 [] rfl (ownEmpty W0 66 4) A l.length c (l.flatMap txC) rfl HRD.out (by rw [flat_len txC_len]) (txC_all l) (by omega) (by omega) (by simp) ?_; intro v1 w1 ho1 hg1 hb1; refine hK _ _ ?_)
      rw [List.nil_append, Nat.zero_add] at ho1
      have hsz0 := HSZ.out
      have HO1 := Lib.hid ho1
      have H1 := Lib.hid (show w1.heap[w.heap.size]? = some (.cells #[.int .i64 lsn, .int .i64 prev, .int .i64 txn, .int .i64 kind, .int .i64 page, .int .i64 next, .int .i64 nu, .int .i64 ok, .int .i64 os, .string oo, .string on, .int .i64 how, .int .i64 root, .string ek, .int .i64 ep, .int .i64 es, .slice AT n1 c1, .slice AD m1 d1] 31 (0, 0)) from (hb1.block _ (by omega)).trans (blkOld H0.out (allocB W0 _)))
      have B1 := Lib.hid (show Below w.heap.size w w1 from (joinB B0.out (allocB W0 (.cells #[] 66))).trans (hb1.mono (by omega)))
      have hc1 := blkCell H1.out
      have HP1 := HPL0.out w1 B1.out
      unfold PlaceOut at HP1
      clear HPL0 ho1 hg1 hb1
      go_upto_region 3 with (go_at_call 26; (with_reducible refine HP1.mono ?_); rintro e w2 ⟨rfl, hb2⟩; have hc2 := blkCell (blkOld H1.out hb2))
      have H2 := Lib.hid (blkOld H1.out hb2)
      have B2 := Lib.hid (joinB B1.out hb2)
      have HO2 := Lib.hid (ownBelow HO1.out hb2)
      have HR2 := Lib.hid (HR.out.below B2.out)
      clear hb2 hc1 HO1 H1 B1 HP1
      go_wp2_with fail
      exact HOUT.out l _ _ _ HS.out HO2.out B2.out
    · have hkd : decide (1 ≤ kind ∧ kind ≤ 7) = false := decide_eq_false (fun h => hno ⟨by omega, h.1, h.2⟩)
      have HNDK := Lib.hid (fun W => HND.out kind W)
      rw [hkd] at HNDK
      clear hno hkd HND
      go_enter Try.func9, Try.ntmps9
      go_upto_region 1 with fail
      rw [← hW0]
      clear hW0
      go_upto_region 2 with (at_builtin; refine listWants (by kernel_rfl) fun K hK => wp_appRw (W0.alloc (.cells #[] 66)) (.tmp 7) (.tmp 8) 22 66 i0 (.agg #[.int .i64 0, .int .i64 0, .int .i64 0, .bool false]) 4 32 Try.underlying22 hi0 hz0 hz1 hz2 rfl (by omega) rfl W0.heap.size _ 0 [] rfl (ownEmpty W0 66 4) A l.length c (l.flatMap txC) rfl HRD.out (by rw [flat_len txC_len]) (txC_all l) (by omega) (by omega) (by simp) ?_; intro v1 w1 ho1 hg1 hb1; refine hK _ _ ?_)
      rw [List.nil_append, Nat.zero_add] at ho1
      have hsz0 := HSZ.out
      have HO1 := Lib.hid ho1
      have H1 := Lib.hid (show w1.heap[w.heap.size]? = some (.cells #[.int .i64 lsn, .int .i64 prev, .int .i64 txn, .int .i64 kind, .int .i64 page, .int .i64 next, .int .i64 nu, .int .i64 ok, .int .i64 os, .string oo, .string on, .int .i64 how, .int .i64 root, .string ek, .int .i64 ep, .int .i64 es, .slice AT n1 c1, .slice AD m1 d1] 31 (0, 0)) from (hb1.block _ (by omega)).trans (blkOld H0.out (allocB W0 _)))
      have B1 := Lib.hid (show Below w.heap.size w w1 from (joinB B0.out (allocB W0 (.cells #[] 66))).trans (hb1.mono (by omega)))
      have hc1 := blkCell H1.out
      have HP1 := HPL0.out w1 B1.out
      unfold PlaceOut at HP1
      clear HPL0 ho1 hg1 hb1
      go_upto_region 3 with (go_at_call 26; (with_reducible refine HP1.mono ?_); rintro e w2 ⟨rfl, hb2⟩; have hc2 := blkCell (blkOld H1.out hb2))
      have H2 := Lib.hid (blkOld H1.out hb2)
      have B2 := Lib.hid (joinB B1.out hb2)
      have HO2 := Lib.hid (ownBelow HO1.out hb2)
      have HR2 := Lib.hid (HR.out.below B2.out)
      clear hb2 hc1 HO1 H1 B1 HP1
      go_wp2_with (go_at_call 27; (with_reducible refine (HNDK.out _).mono ?_); rintro e w3 ⟨rfl, hb3⟩; have hc3 := blkCell (blkOld H2.out hb3))
      exact HOUT.out l _ _ _ HS.out (ownBelow HO2.out hb3) (joinB B2.out hb3)
  have HNO := Lib.hid hno
  unfold Tx.noted at hno
  simp only at hno
  have h1 : ¬ txn < 1 := by omega
  have hkd : decide (1 ≤ kind ∧ kind ≤ 7) = true := decide_eq_true hno.2
  have HKR := Lib.hid (show 1 ≤ kind ∧ kind ≤ 7 from hno.2)
  have HNDK := Lib.hid (fun W => HND.out kind W)
  rw [hkd] at HNDK
  clear N0 hno hkd HND
  cases hp : Tx.placeT l txn with
  | none =>
    rw [hp] at HPL0
    by_cases hk7 : kind = 7
    · have HS := Lib.hid (N1.out HNO.out hp hk7)
      have hk7' : (kind == 7) = true := by simpa using hk7
      clear N1 N2 N3 N4 HOWN hp hk7
      go_enter Try.func9, Try.ntmps9
      go_upto_region 1 with fail
      rw [← hW0]
      clear hW0
      go_upto_region 2 with (at_builtin; refine listWants (by kernel_rfl) fun K hK => wp_appRw (W0.alloc (.cells #[] 66)) (.tmp 7) (.tmp 8) 22 66 i0 (.agg #[.int .i64 0, .int .i64 0, .int .i64 0, .bool false]) 4 32 Try.underlying22 hi0 hz0 hz1 hz2 rfl (by omega) rfl W0.heap.size _ 0 [] rfl (ownEmpty W0 66 4) A l.length c (l.flatMap txC) rfl HRD.out (by rw [flat_len txC_len]) (txC_all l) (by omega) (by omega) (by simp) ?_; intro v1 w1 ho1 hg1 hb1; refine hK _ _ ?_)
      rw [List.nil_append, Nat.zero_add] at ho1
      have hsz0 := HSZ.out
      have HO1 := Lib.hid ho1
      have H1 := Lib.hid (show w1.heap[w.heap.size]? = some (.cells #[.int .i64 lsn, .int .i64 prev, .int .i64 txn, .int .i64 kind, .int .i64 page, .int .i64 next, .int .i64 nu, .int .i64 ok, .int .i64 os, .string oo, .string on, .int .i64 how, .int .i64 root, .string ek, .int .i64 ep, .int .i64 es, .slice AT n1 c1, .slice AD m1 d1] 31 (0, 0)) from (hb1.block _ (by omega)).trans (blkOld H0.out (allocB W0 _)))
      have B1 := Lib.hid (show Below w.heap.size w w1 from (joinB B0.out (allocB W0 (.cells #[] 66))).trans (hb1.mono (by omega)))
      have hc1 := blkCell H1.out
      have HP1 := HPL0.out w1 B1.out
      unfold PlaceOut at HP1
      simp only [Tx.placeI] at HP1
      clear HPL0 ho1 hg1 hb1
      go_upto_region 3 with (go_at_call 26; (with_reducible refine HP1.mono ?_); rintro e w2 ⟨rfl, hb2⟩; have hc2 := blkCell (blkOld H1.out hb2))
      have H2 := Lib.hid (blkOld H1.out hb2)
      have B2 := Lib.hid (joinB B1.out hb2)
      have HO2 := Lib.hid (ownBelow HO1.out hb2)
      have HR2 := Lib.hid (HR.out.below B2.out)
      clear hb2 hc1 HO1 H1 B1 HP1
      go_wp2_with (go_at_call 27; (with_reducible refine (HNDK.out _).mono ?_); rintro e w3 ⟨rfl, hb3⟩; have hc3 := blkCell (blkOld H2.out hb3))
      exact HOUT.out l _ _ _ HS.out (ownBelow HO2.out hb3) (joinB B2.out hb3)
    · have HRES := Lib.hid (N2.out HNO.out hp hk7)
      have hk7' : (kind == 7) = false := by simpa using hk7
      clear N1 N2 N3 N4 HOUT hp
      go_enter Try.func9, Try.ntmps9
      go_upto_region 1 with fail
      rw [← hW0]
      clear hW0
      go_upto_region 2 with (at_builtin; refine listWants (by kernel_rfl) fun K hK => wp_appRw (W0.alloc (.cells #[] 66)) (.tmp 7) (.tmp 8) 22 66 i0 (.agg #[.int .i64 0, .int .i64 0, .int .i64 0, .bool false]) 4 32 Try.underlying22 hi0 hz0 hz1 hz2 rfl (by omega) rfl W0.heap.size _ 0 [] rfl (ownEmpty W0 66 4) A l.length c (l.flatMap txC) rfl HRD.out (by rw [flat_len txC_len]) (txC_all l) (by omega) (by omega) (by simp) ?_; intro v1 w1 ho1 hg1 hb1; refine hK _ _ ?_)
      rw [List.nil_append, Nat.zero_add] at ho1
      have hsz0 := HSZ.out
      have HO1 := Lib.hid ho1
      have H1 := Lib.hid (show w1.heap[w.heap.size]? = some (.cells #[.int .i64 lsn, .int .i64 prev, .int .i64 txn, .int .i64 kind, .int .i64 page, .int .i64 next, .int .i64 nu, .int .i64 ok, .int .i64 os, .string oo, .string on, .int .i64 how, .int .i64 root, .string ek, .int .i64 ep, .int .i64 es, .slice AT n1 c1, .slice AD m1 d1] 31 (0, 0)) from (hb1.block _ (by omega)).trans (blkOld H0.out (allocB W0 _)))
      have B1 := Lib.hid (show Below w.heap.size w w1 from (joinB B0.out (allocB W0 (.cells #[] 66))).trans (hb1.mono (by omega)))
      have hc1 := blkCell H1.out
      have HP1 := HPL0.out w1 B1.out
      unfold PlaceOut at HP1
      simp only [Tx.placeI] at HP1
      clear HPL0 ho1 hg1 hb1
      go_upto_region 3 with (go_at_call 26; (with_reducible refine HP1.mono ?_); rintro e w2 ⟨rfl, hb2⟩; have hc2 := blkCell (blkOld H1.out hb2))
      have H2 := Lib.hid (blkOld H1.out hb2)
      have B2 := Lib.hid (joinB B1.out hb2)
      have HO2 := Lib.hid (ownBelow HO1.out hb2)
      have HR2 := Lib.hid (HR.out.below B2.out)
      clear hb2 hc1 HO1 H1 B1 HP1
      obtain ⟨A2, c2, rfl⟩ := ownLen HO2.out
      have hs2 := heapLt H2.out
      have hs1 := B2.out.size
      have hlN : (l.length : Int) < ((l.length + 1 : Nat) : Int) := by omega
      go_upto_region 10 with (first
        | (go_at_call 27; (with_reducible refine (HNDK.out _).mono ?_); rintro e w3 ⟨rfl, hb3⟩; have hc3 := blkCell (blkOld H2.out hb3))
        | (at_builtin; refine wpList_pushW (by kernel_rfl) (.tmp 48) (.tmp 52) 22 66 Try.underlying22 info_tx rfl (by omega) (by omega) rfl W0.heap.size _ l.length (l.flatMap txC) rfl (ownBelow (ownBelow HO2.out hb3) (allocB w3 _)) w3.heap.size (txC ⟨txn, 0, 0, false⟩) 66 rfl (heap_alloc_new w3 _) rfl (txC_one _) (by omega) (by have := hb3.size; simp; omega) ?_; intro v4 w4 ho4 hg4 hb4))
      have HX := Lib.hid (show w4.heap[w.heap.size]? = some (.cells #[.int .i64 lsn, .int .i64 prev, .int .i64 txn, .int .i64 kind, .int .i64 page, .int .i64 next, .int .i64 nu, .int .i64 ok, .int .i64 os, .string oo, .string on, .int .i64 how, .int .i64 root, .string ek, .int .i64 ep, .int .i64 es, .slice AT n1 c1, .slice AD m1 d1] 31 (0, 0)) from (hb4.block _ (by omega)).trans (blkOld (blkOld H2.out hb3) (allocB w3 _)))
      have HB := Lib.hid (show Below w.heap.size w w4 from (joinB (joinB B2.out hb3) (allocB w3 _)).trans (hb4.mono (by omega)))
      obtain ⟨g, cap, rfl, hgB0⟩ := ownSome ho4 (by omega)
      have hgB : w.heap.size + 1 ≤ g := by omega
      obtain ⟨L, hL⟩ : ∃ L : List Rc.TxnAt, L = l ++ [⟨txn, 0, 0, false⟩] := ⟨_, rfl⟩
      have hLf : l.flatMap txC ++ txC ⟨txn, 0, 0, false⟩ = L.flatMap txC := by rw [hL, List.flatMap_append]; simp
      rw [hLf] at ho4
      obtain ⟨N, hN⟩ : ∃ N, N = l.length + 1 := ⟨_, rfl⟩
      rw [← hN] at ho4
      rw [← hN]
      obtain ⟨k, hk⟩ : ∃ k, k = l.length := ⟨_, rfl⟩
      rw [← hk]
      have HO := Lib.hid (ownMono ho4 (show w.heap.size + 1 ≤ W0.heap.size from by omega))
      have HLN := Lib.hid (show L.length = N from by rw [hL, hN, List.length_append, List.length_singleton])
      have hkL : k < L.length := by rw [hL, hk, List.length_append, List.length_singleton]; omega
      have HRES2 := Lib.hid (show R = L.set k (Tx.tuneT ⟨lsn, prev, txn, kind, page, next, nu, ⟨ok, os, oo, on⟩, how, root, ⟨ek, ep, es⟩, ts, ds⟩ L[k]) from by
        have e : L[k] = ⟨txn, 0, 0, false⟩ := by subst hL hk; simp
        rw [e, hL, hk]; exact HRES.out)
      clear HRES
      have HRES := HRES2
      clear HRES2 hL hLf hN hk ho4 hg4 hb4 hb3 hs2 hs1 hlN hgB0 B0 H0 hc3 hc2 H2 B2 HO2 HR2 HNDK
      obtain ⟨W, hWW⟩ : ∃ W, W = w4 := ⟨_, rfl⟩
      rw [← hWW] at HX HB HO
      rw [← hWW]
      clear hWW
      obtain ⟨t, ht⟩ : ∃ t, t = L[k] := ⟨_, rfl⟩
      obtain ⟨tn, tl, tx, td⟩ := t
      obtain ⟨s1, s2, s3⟩ := rowSet HO.out HLN.out k hkL 1 (by omega) (.int .i64 lsn) ⟨tn, lsn, tx, td⟩ (by rw [← ht]; rfl)
      rw [← ht] at s1
      simp only [txC] at s1
      have HT := Lib.hid ht
      have HO2 := Lib.hid s3
      have hcw := blkCell HX.out
      have hgne : w.heap.size ≠ g := by omega
      have hkN := HLN.out
      rw [hkN] at hkL
      have hkI : (k : Int) < (N : Int) := by omega
      have hk0 : (0 : Int) ≤ (k : Int) := by omega
      clear ht s3 hkN
      go_upto_region 11 with fail
      have HX2 := Lib.hid (show (W.setCell ⟨g, k * 4 + 1, none⟩ (.int .i64 lsn)).heap[w.heap.size]? = some (.cells #[.int .i64 lsn, .int .i64 prev, .int .i64 txn, .int .i64 kind, .int .i64 page, .int .i64 next, .int .i64 nu, .int .i64 ok, .int .i64 os, .string oo, .string on, .int .i64 how, .int .i64 root, .string ek, .int .i64 ep, .int .i64 es, .slice AT n1 c1, .slice AD m1 d1] 31 (0, 0)) from (Below.heap_setCell _ _ _ _ hgne).trans HX.out)
      have HB2 := Lib.hid (HB.out.trans ((Below.refl w.heap.size W).setCell (p := ⟨g, k * 4 + 1, none⟩) (by show w.heap.size ≤ g; omega) (.int .i64 lsn)))
      obtain ⟨W2, hW2⟩ : ∃ W2, W2 = W.setCell ⟨g, k * 4 + 1, none⟩ (.int .i64 lsn) := ⟨_, rfl⟩
      rw [← hW2] at HX2 HB2 HO2
      rw [← hW2]
      clear hW2 HX HB HO hcw s1 s2
      have hcw2 := blkCell HX2.out
      have HLN2 := Lib.hid (show (L.set k ⟨tn, lsn, tx, td⟩).length = N from by rw [List.length_set]; exact HLN.out)
      have HK2 := Lib.hid (show k < (L.set k ⟨tn, lsn, tx, td⟩).length from by have := HLN2.out; omega)
      have hsk : ∀ y, (L.set k ⟨tn, lsn, tx, td⟩).set k y = L.set k y := fun y => List.set_set ..
      have HGE := Lib.hid (show (L.set k ⟨tn, lsn, tx, td⟩)[k]'HK2.out = ⟨tn, lsn, tx, td⟩ from by simp)
      have HFIN := Lib.hid (fun y w' (hy : y = Tx.tuneT ⟨lsn, prev, txn, kind, page, next, nu, ⟨ok, os, oo, on⟩, how, root, ⟨ek, ep, es⟩, ts, ds⟩ ⟨tn, tl, tx, td⟩) (ho : w'.ownsRow (w.heap.size + 1) 66 4 (.slice (some ⟨g, 0, none⟩) N cap) N ((L.set k y).flatMap txC)) (hb : Below w.heap.size w w') => HOWN.out (L.set k y) g N cap (w.heap.size + 1) w' (by rw [hy, HT.out]; exact HRES.out) ho (by rw [List.length_set]; exact HLN.out) (by omega) hb)
      clear HRES HOWN HT
      have hkk : kind = 1 ∨ kind = 2 ∨ kind = 3 ∨ kind = 4 ∨ kind = 5 ∨ kind = 6 := by have := HKR.out; omega
      clear HKR hk7 HNO
      rcases hkk with rfl | rfl | rfl | rfl | rfl | rfl
      · obtain ⟨u1, u2, u3⟩ := rowSet HO2.out HLN2.out k HK2.out 2 (by omega) (.int .i64 lsn) ⟨tn, lsn, lsn, td⟩ (by rw [HGE.out]; rfl)
        rw [HGE.out] at u1
        simp only [txC] at u1
        rw [hsk] at u3
        have HO3 := Lib.hid (HFIN.out ⟨tn, lsn, lsn, td⟩ _ rfl u3 (HB2.out.trans ((Below.refl w.heap.size W2).setCell (p := ⟨g, k * 4 + 2, none⟩) (by show w.heap.size ≤ g; omega) (.int .i64 lsn))))
        clear u3 hsk
        go_wp2_with fail
        exact HO3.out
      · obtain ⟨u1, u2, u3⟩ := rowSet HO2.out HLN2.out k HK2.out 2 (by omega) (.int .i64 lsn) ⟨tn, lsn, lsn, td⟩ (by rw [HGE.out]; rfl)
        rw [HGE.out] at u1
        simp only [txC] at u1
        rw [hsk] at u3
        have HO3 := Lib.hid (HFIN.out ⟨tn, lsn, lsn, td⟩ _ rfl u3 (HB2.out.trans ((Below.refl w.heap.size W2).setCell (p := ⟨g, k * 4 + 2, none⟩) (by show w.heap.size ≤ g; omega) (.int .i64 lsn))))
        clear u3 hsk
        go_wp2_with fail
        exact HO3.out
      · obtain ⟨u1, u2, u3⟩ := rowSet HO2.out HLN2.out k HK2.out 2 (by omega) (.int .i64 next) ⟨tn, lsn, next, td⟩ (by rw [HGE.out]; rfl)
        rw [HGE.out] at u1
        simp only [txC] at u1
        rw [hsk] at u3
        have HO3 := Lib.hid (HFIN.out ⟨tn, lsn, next, td⟩ _ rfl u3 (HB2.out.trans ((Below.refl w.heap.size W2).setCell (p := ⟨g, k * 4 + 2, none⟩) (by show w.heap.size ≤ g; omega) (.int .i64 next))))
        clear u3 hsk
        go_wp2_with fail
        exact HO3.out
      · obtain ⟨u1, u2, u3⟩ := rowSet HO2.out HLN2.out k HK2.out 2 (by omega) (.int .i64 next) ⟨tn, lsn, next, td⟩ (by rw [HGE.out]; rfl)
        rw [HGE.out] at u1
        simp only [txC] at u1
        rw [hsk] at u3
        have HO3 := Lib.hid (HFIN.out ⟨tn, lsn, next, td⟩ _ rfl u3 (HB2.out.trans ((Below.refl w.heap.size W2).setCell (p := ⟨g, k * 4 + 2, none⟩) (by show w.heap.size ≤ g; omega) (.int .i64 next))))
        clear u3 hsk
        go_wp2_with fail
        exact HO3.out
      · obtain ⟨u1, u2, u3⟩ := rowSet HO2.out HLN2.out k HK2.out 3 (by omega) (.bool true) ⟨tn, lsn, tx, true⟩ (by rw [HGE.out]; rfl)
        rw [HGE.out] at u1
        simp only [txC] at u1
        rw [hsk] at u3
        have HO3 := Lib.hid (HFIN.out ⟨tn, lsn, tx, true⟩ _ rfl u3 (HB2.out.trans ((Below.refl w.heap.size W2).setCell (p := ⟨g, k * 4 + 3, none⟩) (by show w.heap.size ≤ g; omega) (.bool true))))
        clear u3 hsk
        go_wp2_with fail
        exact HO3.out
      · have HO3 := Lib.hid (HFIN.out ⟨tn, lsn, tx, td⟩ _ rfl HO2.out HB2.out)
        clear hsk
        go_wp2_with fail
        exact HO3.out
  | some i =>
    rw [hp] at HPL0
    obtain ⟨hi, -⟩ := Tx.placeT_some hp
    have hin0 : ¬ (i : Int) < 0 := by omega
    by_cases hk7 : kind = 7
    · have HS := Lib.hid (N3.out i HNO.out hp hk7)
      have hk7' : (kind == 7) = true := by simpa using hk7
      clear N1 N2 N3 N4 HOWN hp hk7
      go_enter Try.func9, Try.ntmps9
      go_upto_region 1 with fail
      rw [← hW0]
      clear hW0
      go_upto_region 2 with (at_builtin; refine listWants (by kernel_rfl) fun K hK => wp_appRw (W0.alloc (.cells #[] 66)) (.tmp 7) (.tmp 8) 22 66 i0 (.agg #[.int .i64 0, .int .i64 0, .int .i64 0, .bool false]) 4 32 Try.underlying22 hi0 hz0 hz1 hz2 rfl (by omega) rfl W0.heap.size _ 0 [] rfl (ownEmpty W0 66 4) A l.length c (l.flatMap txC) rfl HRD.out (by rw [flat_len txC_len]) (txC_all l) (by omega) (by omega) (by simp) ?_; intro v1 w1 ho1 hg1 hb1; refine hK _ _ ?_)
      rw [List.nil_append, Nat.zero_add] at ho1
      have hsz0 := HSZ.out
      have HO1 := Lib.hid ho1
      have H1 := Lib.hid (show w1.heap[w.heap.size]? = some (.cells #[.int .i64 lsn, .int .i64 prev, .int .i64 txn, .int .i64 kind, .int .i64 page, .int .i64 next, .int .i64 nu, .int .i64 ok, .int .i64 os, .string oo, .string on, .int .i64 how, .int .i64 root, .string ek, .int .i64 ep, .int .i64 es, .slice AT n1 c1, .slice AD m1 d1] 31 (0, 0)) from (hb1.block _ (by omega)).trans (blkOld H0.out (allocB W0 _)))
      have B1 := Lib.hid (show Below w.heap.size w w1 from (joinB B0.out (allocB W0 (.cells #[] 66))).trans (hb1.mono (by omega)))
      have hc1 := blkCell H1.out
      have HP1 := HPL0.out w1 B1.out
      unfold PlaceOut at HP1
      simp only [Tx.placeI] at HP1
      clear HPL0 ho1 hg1 hb1
      go_upto_region 3 with (go_at_call 26; (with_reducible refine HP1.mono ?_); rintro e w2 ⟨rfl, hb2⟩; have hc2 := blkCell (blkOld H1.out hb2))
      have H2 := Lib.hid (blkOld H1.out hb2)
      have B2 := Lib.hid (joinB B1.out hb2)
      have HO2 := Lib.hid (ownBelow HO1.out hb2)
      have HR2 := Lib.hid (HR.out.below B2.out)
      clear hb2 hc1 HO1 H1 B1 HP1
      have hwi : IntKind.i64.wrap ((i : Int) + 1) = (i : Int) + 1 := IntWalk.i64_in _ (by omega)
      obtain ⟨g, cap, hv1, hgB⟩ := ownSome HO2.out (by omega)
      subst hv1
      go_upto_region 6 with (go_at_call 27; (with_reducible refine (HNDK.out _).mono ?_); rintro e w3 ⟨rfl, hb3⟩; have hc3 := blkCell (blkOld H2.out hb3))
      obtain ⟨w6, hw6⟩ : ∃ w6, w6 = w3.drew := ⟨_, rfl⟩
      have HO3 := Lib.hid (show w6.ownsRow W0.heap.size 66 4 (.slice (some ⟨g, 0, none⟩) i cap) i ((l.flatMap txC).take (i * 4)) from by rw [hw6]; exact ownTake (ownBelow (ownBelow HO2.out hb3) (Below.refl _ w3).drew) (by omega))
      have B3 := Lib.hid (show Below w.heap.size w w6 from by rw [hw6]; exact (joinB B2.out hb3).drew)
      have HR3 := HR.out.below B3.out
      obtain ⟨hcap, hcapm⟩ : l.length ≤ cap ∧ cap ≤ maxLen := by
        rcases HO2.out.2 with ⟨h0, _⟩ | ⟨g', cap', cur, hv, _, _, h3, h4, _⟩
        · cases h0
        · injection hv with _ _ hv3; subst hv3; exact ⟨h3, h4⟩
      obtain ⟨b, off, rfl, hc0, hbl, hcell⟩ := Reads.at_ HR3 (by omega)
      obtain ⟨j, hj⟩ : ∃ j, j = i + 1 := ⟨_, rfl⟩
      have hjI : ((i : Int) + 1) = (j : Int) := by omega
      rw [hjI] at hwi
      obtain ⟨AD, hAD, hsrc⟩ : ∃ AD : Option Addr, (if c = j then (some ⟨b, off, none⟩ : Option Addr) else some ⟨b, off + j * 4, none⟩) = AD ∧ Reads w6 AD (c - j) (l.length - j) ((l.drop j).flatMap txC) := by
        refine ⟨_, rfl, fun h0 => ?_⟩
        rw [if_neg (by omega)]
        refine ⟨b, off + j * 4, rfl, by omega, hbl, fun t u hu => ?_⟩
        rw [Nat.add_assoc]
        refine hcell (j * 4 + t) u ?_
        rw [← hu]
        have h6 : l.flatMap txC = (l.take j).flatMap txC ++ (l.drop j).flatMap txC := by rw [← List.flatMap_append, List.take_append_drop]
        have h7 : ((l.take j).flatMap txC).length = j * 4 := by rw [flat_len txC_len, List.length_take]; omega
        rw [h6, List.getElem?_append_right (by omega), h7, Nat.add_sub_cancel_left]
      have HSRC := Lib.hid hsrc
      have HRES := Lib.hid (show (l.flatMap txC).take (i * 4) ++ (l.drop j).flatMap txC = (l.take i ++ l.drop (i + 1)).flatMap txC ∧ i + (l.length - j) = (l.take i ++ l.drop (i + 1)).length from by
        constructor
        · have h6 : l.flatMap txC = (l.take i).flatMap txC ++ (l.drop i).flatMap txC := by rw [← List.flatMap_append, List.take_append_drop]
          have h7 : ((l.take i).flatMap txC).length = i * 4 := by rw [flat_len txC_len, List.length_take]; omega
          rw [List.flatMap_append, h6, ← h7, List.take_left, hj]
        · rw [List.length_append, List.length_take, List.length_drop, hj]; omega)
      have hijc : (i : Int) ≤ (cap : Int) := by omega
      have hjc : (j : Int) ≤ (c : Int) := by omega
      have hjl : (j : Int) ≤ (l.length : Int) := by omega
      have hbz := B3.out.size
      have hbz2 : g < w6.heap.size := (HO3.out.lt g rfl).2
      clear hsrc hcell HR3 hj HO2 H2 hc2 hc3 HNDK HKR HNO B2
      refine wp_region_held_drew (S := (fun _ => True)) (by kernel_rfl) ?_ (fun hHeld => ?_)
      · trivial
      refine tkW 0 (some 36) (v := ?_) rfl ?_ ?_
      rotate_left
      · intro u hSu; clear hSu; go_simp; (try with_reducible rfl)
      try simp only [Act.put, List.setIfInBounds_toArray, List.set_cons_zero, List.set_cons_succ]
      refine tkW 1 (some 37) (v := ?_) rfl ?_ ?_
      rotate_left
      · intro u hSu; clear hSu; go_simp; (try with_reducible rfl)
      try simp only [Act.put, List.setIfInBounds_toArray, List.set_cons_zero, List.set_cons_succ]
      refine tkW 2 (some 38) (v := ?_) rfl ?_ ?_
      rotate_left
      · intro u hSu; clear hSu; go_simp; (try with_reducible rfl)
      try simp only [Act.put, List.setIfInBounds_toArray, List.set_cons_zero, List.set_cons_succ]
      refine tkW 3 (some 39) (v := ?_) rfl ?_ ?_
      rotate_left
      · intro u hSu; clear hSu; go_simp; (try with_reducible rfl)
      try simp only [Act.put, List.setIfInBounds_toArray, List.set_cons_zero, List.set_cons_succ]
      refine tkW 4 (some 40) (v := ?_) rfl ?_ ?_
      rotate_left
      · intro u hSu; clear hSu; go_simp; (try with_reducible rfl)
      try simp only [Act.put, List.setIfInBounds_toArray, List.set_cons_zero, List.set_cons_succ]
      refine tkW 5 (some 41) (v := ?_) rfl ?_ ?_
      rotate_left
      · intro u hSu; clear hSu; go_simp; (try with_reducible rfl)
      try simp only [Act.put, List.setIfInBounds_toArray, List.set_cons_zero, List.set_cons_succ]
      refine tkW 6 (some 42) (v := ?_) rfl ?_ ?_
      rotate_left
      · intro u hSu; clear hSu; go_simp; (try with_reducible rfl)
      try simp only [Act.put, List.setIfInBounds_toArray, List.set_cons_zero, List.set_cons_succ]
      refine rdH 7 (some 43) rfl (fun K hK => ?_)
      try rw [hAD]
      refine wantedIf (by rfl) ?_
      rw [← hw6]
      refine wp_appRw w6 (.tmp 38) (.tmp 42) 22 66 i0 (.agg #[.int .i64 0, .int .i64 0, .int .i64 0, .bool false]) 4 32 Try.underlying22 hi0 hz0 hz1 hz2 rfl (by omega) rfl W0.heap.size _ i ((l.flatMap txC).take (i * 4)) rfl HO3.out AD (l.length - j) (c - j) ((l.drop j).flatMap txC) rfl HSRC.out (by rw [flat_len txC_len, List.length_drop]) (txC_all _) (by omega) (by omega) (by omega) ?_
      intro v7 w7 ho7 hg7 hb7
      refine hK.out _ _ ?_ (fun hHeld => ?_)
      · trivial
      clear hK K
      try simp only [Act.put, List.setIfInBounds_toArray, List.set_cons_zero, List.set_cons_succ]
      refine tkW 8 (some 4) (v := ?_) rfl ?_ ?_
      rotate_left
      · intro u hSu; clear hSu; go_simp; (try with_reducible rfl)
      try simp only [Act.put, List.setIfInBounds_toArray, List.set_cons_zero, List.set_cons_succ]
      refine wpAnyH_done (by kernel_rfl) ?_ _
      clear hHeld
      rw [HRES.out.1, HRES.out.2] at ho7
      have HFI := Lib.hid (HOUT.out _ v7 _ w7 HS.out ho7 (B3.out.trans (hb7.mono (by omega))))
      go_wp2_with fail
      exact HFI.out
    · have HRES := Lib.hid (N4.out i HNO.out hp hk7 hi)
      have hk7' : (kind == 7) = false := by simpa using hk7
      clear N1 N2 N3 N4 HOUT hp
      go_enter Try.func9, Try.ntmps9
      go_upto_region 1 with fail
      rw [← hW0]
      clear hW0
      go_upto_region 2 with (at_builtin; refine listWants (by kernel_rfl) fun K hK => wp_appRw (W0.alloc (.cells #[] 66)) (.tmp 7) (.tmp 8) 22 66 i0 (.agg #[.int .i64 0, .int .i64 0, .int .i64 0, .bool false]) 4 32 Try.underlying22 hi0 hz0 hz1 hz2 rfl (by omega) rfl W0.heap.size _ 0 [] rfl (ownEmpty W0 66 4) A l.length c (l.flatMap txC) rfl HRD.out (by rw [flat_len txC_len]) (txC_all l) (by omega) (by omega) (by simp) ?_; intro v1 w1 ho1 hg1 hb1; refine hK _ _ ?_)
      rw [List.nil_append, Nat.zero_add] at ho1
      have hsz0 := HSZ.out
      have HO1 := Lib.hid ho1
      have H1 := Lib.hid (show w1.heap[w.heap.size]? = some (.cells #[.int .i64 lsn, .int .i64 prev, .int .i64 txn, .int .i64 kind, .int .i64 page, .int .i64 next, .int .i64 nu, .int .i64 ok, .int .i64 os, .string oo, .string on, .int .i64 how, .int .i64 root, .string ek, .int .i64 ep, .int .i64 es, .slice AT n1 c1, .slice AD m1 d1] 31 (0, 0)) from (hb1.block _ (by omega)).trans (blkOld H0.out (allocB W0 _)))
      have B1 := Lib.hid (show Below w.heap.size w w1 from (joinB B0.out (allocB W0 (.cells #[] 66))).trans (hb1.mono (by omega)))
      have hc1 := blkCell H1.out
      have HP1 := HPL0.out w1 B1.out
      unfold PlaceOut at HP1
      simp only [Tx.placeI] at HP1
      clear HPL0 ho1 hg1 hb1
      go_upto_region 3 with (go_at_call 26; (with_reducible refine HP1.mono ?_); rintro e w2 ⟨rfl, hb2⟩; have hc2 := blkCell (blkOld H1.out hb2))
      have H2 := Lib.hid (blkOld H1.out hb2)
      have B2 := Lib.hid (joinB B1.out hb2)
      have HO2 := Lib.hid (ownBelow HO1.out hb2)
      have HR2 := Lib.hid (HR.out.below B2.out)
      clear hb2 hc1 HO1 H1 B1 HP1
      obtain ⟨g, cap, hv1, hgB0⟩ := ownSome HO2.out (by omega)
      subst hv1
      go_upto_region 10 with (go_at_call 27; (with_reducible refine (HNDK.out _).mono ?_); rintro e w3 ⟨rfl, hb3⟩; have hc3 := blkCell (blkOld H2.out hb3))
      have HX := Lib.hid (blkOld H2.out hb3)
      have HB := Lib.hid (joinB B2.out hb3)
      have hgB : w.heap.size + 1 ≤ g := by omega
      have ho2' := ownMono (ownBelow HO2.out hb3) (show w.heap.size + 1 ≤ W0.heap.size from by omega)
      obtain ⟨L, hL⟩ : ∃ L : List Rc.TxnAt, L = l := ⟨_, rfl⟩
      obtain ⟨N, hN⟩ : ∃ N, N = l.length := ⟨_, rfl⟩
      obtain ⟨k, hk⟩ : ∃ k, k = i := ⟨_, rfl⟩
      rw [← hN] at ho2'
      rw [← hN]
      rw [← hL] at ho2'
      rw [← hk]
      have HO := Lib.hid ho2'
      have HLN := Lib.hid (show L.length = N from by rw [hL, hN])
      have hkL : k < L.length := by rw [hL, hk]; exact hi
      have HRES2 := Lib.hid (show R = L.set k (Tx.tuneT ⟨lsn, prev, txn, kind, page, next, nu, ⟨ok, os, oo, on⟩, how, root, ⟨ek, ep, es⟩, ts, ds⟩ L[k]) from by
        subst hL hk; exact HRES.out)
      clear HRES
      have HRES := HRES2
      clear HRES2 hL hN hk ho2' hb3 hc2 hc3 H2 B2 HO2 HR2 HNDK hgB0 B0 H0 hi hin0
      obtain ⟨W, hWW⟩ : ∃ W, W = w3 := ⟨_, rfl⟩
      rw [← hWW] at HX HB HO
      rw [← hWW]
      clear hWW
      obtain ⟨t, ht⟩ : ∃ t, t = L[k] := ⟨_, rfl⟩
      obtain ⟨tn, tl, tx, td⟩ := t
      obtain ⟨s1, s2, s3⟩ := rowSet HO.out HLN.out k hkL 1 (by omega) (.int .i64 lsn) ⟨tn, lsn, tx, td⟩ (by rw [← ht]; rfl)
      rw [← ht] at s1
      simp only [txC] at s1
      have HT := Lib.hid ht
      have HO2 := Lib.hid s3
      have hcw := blkCell HX.out
      have hgne : w.heap.size ≠ g := by omega
      have hkN := HLN.out
      rw [hkN] at hkL
      have hkI : (k : Int) < (N : Int) := by omega
      have hk0 : (0 : Int) ≤ (k : Int) := by omega
      clear ht s3 hkN
      go_upto_region 11 with fail
      have HX2 := Lib.hid (show (W.setCell ⟨g, k * 4 + 1, none⟩ (.int .i64 lsn)).heap[w.heap.size]? = some (.cells #[.int .i64 lsn, .int .i64 prev, .int .i64 txn, .int .i64 kind, .int .i64 page, .int .i64 next, .int .i64 nu, .int .i64 ok, .int .i64 os, .string oo, .string on, .int .i64 how, .int .i64 root, .string ek, .int .i64 ep, .int .i64 es, .slice AT n1 c1, .slice AD m1 d1] 31 (0, 0)) from (Below.heap_setCell _ _ _ _ hgne).trans HX.out)
      have HB2 := Lib.hid (HB.out.trans ((Below.refl w.heap.size W).setCell (p := ⟨g, k * 4 + 1, none⟩) (by show w.heap.size ≤ g; omega) (.int .i64 lsn)))
      obtain ⟨W2, hW2⟩ : ∃ W2, W2 = W.setCell ⟨g, k * 4 + 1, none⟩ (.int .i64 lsn) := ⟨_, rfl⟩
      rw [← hW2] at HX2 HB2 HO2
      rw [← hW2]
      clear hW2 HX HB HO hcw s1 s2
      have hcw2 := blkCell HX2.out
      have HLN2 := Lib.hid (show (L.set k ⟨tn, lsn, tx, td⟩).length = N from by rw [List.length_set]; exact HLN.out)
      have HK2 := Lib.hid (show k < (L.set k ⟨tn, lsn, tx, td⟩).length from by have := HLN2.out; omega)
      have hsk : ∀ y, (L.set k ⟨tn, lsn, tx, td⟩).set k y = L.set k y := fun y => List.set_set ..
      have HGE := Lib.hid (show (L.set k ⟨tn, lsn, tx, td⟩)[k]'HK2.out = ⟨tn, lsn, tx, td⟩ from by simp)
      have HFIN := Lib.hid (fun y w' (hy : y = Tx.tuneT ⟨lsn, prev, txn, kind, page, next, nu, ⟨ok, os, oo, on⟩, how, root, ⟨ek, ep, es⟩, ts, ds⟩ ⟨tn, tl, tx, td⟩) (ho : w'.ownsRow (w.heap.size + 1) 66 4 (.slice (some ⟨g, 0, none⟩) N cap) N ((L.set k y).flatMap txC)) (hb : Below w.heap.size w w') => HOWN.out (L.set k y) g N cap (w.heap.size + 1) w' (by rw [hy, HT.out]; exact HRES.out) ho (by rw [List.length_set]; exact HLN.out) (by omega) hb)
      clear HRES HOWN HT
      have hkk : kind = 1 ∨ kind = 2 ∨ kind = 3 ∨ kind = 4 ∨ kind = 5 ∨ kind = 6 := by have := HKR.out; omega
      clear HKR hk7 HNO
      rcases hkk with rfl | rfl | rfl | rfl | rfl | rfl
      · obtain ⟨u1, u2, u3⟩ := rowSet HO2.out HLN2.out k HK2.out 2 (by omega) (.int .i64 lsn) ⟨tn, lsn, lsn, td⟩ (by rw [HGE.out]; rfl)
        rw [HGE.out] at u1
        simp only [txC] at u1
        rw [hsk] at u3
        have HO3 := Lib.hid (HFIN.out ⟨tn, lsn, lsn, td⟩ _ rfl u3 (HB2.out.trans ((Below.refl w.heap.size W2).setCell (p := ⟨g, k * 4 + 2, none⟩) (by show w.heap.size ≤ g; omega) (.int .i64 lsn))))
        clear u3 hsk
        go_wp2_with fail
        exact HO3.out
      · obtain ⟨u1, u2, u3⟩ := rowSet HO2.out HLN2.out k HK2.out 2 (by omega) (.int .i64 lsn) ⟨tn, lsn, lsn, td⟩ (by rw [HGE.out]; rfl)
        rw [HGE.out] at u1
        simp only [txC] at u1
        rw [hsk] at u3
        have HO3 := Lib.hid (HFIN.out ⟨tn, lsn, lsn, td⟩ _ rfl u3 (HB2.out.trans ((Below.refl w.heap.size W2).setCell (p := ⟨g, k * 4 + 2, none⟩) (by show w.heap.size ≤ g; omega) (.int .i64 lsn))))
        clear u3 hsk
        go_wp2_with fail
        exact HO3.out
      · obtain ⟨u1, u2, u3⟩ := rowSet HO2.out HLN2.out k HK2.out 2 (by omega) (.int .i64 next) ⟨tn, lsn, next, td⟩ (by rw [HGE.out]; rfl)
        rw [HGE.out] at u1
        simp only [txC] at u1
        rw [hsk] at u3
        have HO3 := Lib.hid (HFIN.out ⟨tn, lsn, next, td⟩ _ rfl u3 (HB2.out.trans ((Below.refl w.heap.size W2).setCell (p := ⟨g, k * 4 + 2, none⟩) (by show w.heap.size ≤ g; omega) (.int .i64 next))))
        clear u3 hsk
        go_wp2_with fail
        exact HO3.out
      · obtain ⟨u1, u2, u3⟩ := rowSet HO2.out HLN2.out k HK2.out 2 (by omega) (.int .i64 next) ⟨tn, lsn, next, td⟩ (by rw [HGE.out]; rfl)
        rw [HGE.out] at u1
        simp only [txC] at u1
        rw [hsk] at u3
        have HO3 := Lib.hid (HFIN.out ⟨tn, lsn, next, td⟩ _ rfl u3 (HB2.out.trans ((Below.refl w.heap.size W2).setCell (p := ⟨g, k * 4 + 2, none⟩) (by show w.heap.size ≤ g; omega) (.int .i64 next))))
        clear u3 hsk
        go_wp2_with fail
        exact HO3.out
      · obtain ⟨u1, u2, u3⟩ := rowSet HO2.out HLN2.out k HK2.out 3 (by omega) (.bool true) ⟨tn, lsn, tx, true⟩ (by rw [HGE.out]; rfl)
        rw [HGE.out] at u1
        simp only [txC] at u1
        rw [hsk] at u3
        have HO3 := Lib.hid (HFIN.out ⟨tn, lsn, tx, true⟩ _ rfl u3 (HB2.out.trans ((Below.refl w.heap.size W2).setCell (p := ⟨g, k * 4 + 3, none⟩) (by show w.heap.size ≤ g; omega) (.bool true))))
        clear u3 hsk
        go_wp2_with fail
        exact HO3.out
      · have HO3 := Lib.hid (HFIN.out ⟨tn, lsn, tx, td⟩ _ rfl HO2.out HB2.out)
        clear hsk
        go_wp2_with fail
        exact HO3.out
end Go.Proofs.Ythfglhafphfhiaa
/- The walk over the statement TxnNotes. -/
namespace Go.Proofs.Ythfglhafphfhiaa
open Go.RowKit
set_option maxRecDepth 100000 in
set_option maxHeartbeats 43980465109760 in
theorem txnnotes_any (l : List Rc.TxnAt) (A0 : Option Addr) (c0 : Nat) (q : PRec) (hl : l.length ≤ 4398046510976) (w : World) (hr : Reads w A0 c0 l.length (l.flatMap txC)) :
    Calls Try.prog 3 #[.slice A0 l.length c0, recV q.r (.slice q.A q.r.txns.length q.c) (.slice q.B q.r.dirty.length q.d)] w fun e w' => e = .returned (.bool true) ∧ Below w.heap.size w w' := by
  obtain ⟨i0, hi0, hz0, hz1, hz2⟩ := info_parts info_tx
  have HR := Lib.hid hr
  have HAW := Lib.hid (fun W => tawake_any W)
  have HNT := Lib.hid (fun A c W (h : TxR W A c l) => tnoteW_any l (by omega) A c q.r q.A q.B q.r.txns.length q.c q.r.dirty.length q.d W h)
  have HRN := Lib.hid (fun A c W (h : TxR W A c l) => rnote_any l (by omega) A c q.r q.A q.B q.r.txns.length q.c q.r.dirty.length q.d W h)
  have HLE := Tx.noteT_len l q.r
  obtain ⟨L, hL⟩ : ∃ L, L = Tx.noteT l q.r := ⟨_, rfl⟩
  rw [← hL] at HNT HRN HLE
  clear hL hr
  have HT1 := Lib.hid (fun A A' c c' W (h : TxR W A c L) (h' : TxR W A' c' L) => show Calls Try.prog 7 #[.slice A L.length c, .slice A' L.length c'] W fun e w' => e = .returned (.bool true) ∧ Below W.heap.size W w' from by
    have h9 := rsame_txn L L (by omega) (by omega) A A' c c' W h h'
    rw [decide_eq_true rfl] at h9
    exact h9)
  have HT2 := Lib.hid (fun A A' c c' W (h : TxR W A c l) (h' : TxR W A' c' l) => show Calls Try.prog 7 #[.slice A l.length c, .slice A' l.length c'] W fun e w' => e = .returned (.bool true) ∧ Below W.heap.size W w' from by
    have h9 := rsame_txn l l (by omega) (by omega) A A' c c' W h h'
    rw [decide_eq_true rfl] at h9
    exact h9)
  clear HLE
  obtain ⟨⟨lsn, prev, txn, kind, page, next, nu, ⟨ok, os, oo, on⟩, how, root, ⟨ek, ep, es⟩, ts, ds⟩, AT, c1, AD, d1⟩ := q
  dsimp only [recV, recA] at HNT HRN ⊢
  generalize ts.length = n1 at HNT HRN ⊢
  generalize ds.length = m1 at HNT HRN ⊢
  obtain ⟨W0, hW0⟩ : ∃ W, W = w.alloc (.cells #[.int .i64 lsn, .int .i64 prev, .int .i64 txn, .int .i64 kind, .int .i64 page, .int .i64 next, .int .i64 nu, .int .i64 ok, .int .i64 os, .string oo, .string on, .int .i64 how, .int .i64 root, .string ek, .int .i64 ep, .int .i64 es, .slice AT n1 c1, .slice AD m1 d1] 31) := ⟨_, rfl⟩
  have H0 := Lib.hid (show W0.heap[w.heap.size]? = some (.cells #[.int .i64 lsn, .int .i64 prev, .int .i64 txn, .int .i64 kind, .int .i64 page, .int .i64 next, .int .i64 nu, .int .i64 ok, .int .i64 os, .string oo, .string on, .int .i64 how, .int .i64 root, .string ek, .int .i64 ep, .int .i64 es, .slice AT n1 c1, .slice AD m1 d1] 31 (0, 0)) from by rw [hW0]; exact heap_alloc_new _ _)
  have B0 := Lib.hid (show Below w.heap.size w W0 from by rw [hW0]; exact allocB _ _)
  have HSZ := Lib.hid (show W0.heap.size = w.heap.size + 1 from by rw [hW0]; simp)
  have HRD := Lib.hid ((HR.out.below B0.out).below (allocB W0 (.cells #[] 66)))
  go_enter Try.func3, Try.ntmps3
  go_upto_region 1 with fail
  rw [← hW0]
  clear hW0
  go_upto_region 2 with (at_builtin; refine listWants (by kernel_rfl) fun K hK => wp_appRw (W0.alloc (.cells #[] 66)) (.tmp 6) (.tmp 7) 22 66 i0 (.agg #[.int .i64 0, .int .i64 0, .int .i64 0, .bool false]) 4 32 Try.underlying22 hi0 hz0 hz1 hz2 rfl (by omega) rfl W0.heap.size _ 0 [] rfl (ownEmpty W0 66 4) A0 l.length c0 (l.flatMap txC) rfl HRD.out (by rw [flat_len txC_len]) (txC_all l) (by omega) (by omega) (by simp) ?_; intro v1 w1 ho1 hg1 hb1; refine hK _ _ ?_)
  rw [List.nil_append, Nat.zero_add] at ho1
  have hsz0 := HSZ.out
  obtain ⟨A1, c9, rfl⟩ := ownLen ho1
  have HX := Lib.hid (show w1.heap[w.heap.size]? = some (.cells #[.int .i64 lsn, .int .i64 prev, .int .i64 txn, .int .i64 kind, .int .i64 page, .int .i64 next, .int .i64 nu, .int .i64 ok, .int .i64 os, .string oo, .string on, .int .i64 how, .int .i64 root, .string ek, .int .i64 ep, .int .i64 es, .slice AT n1 c1, .slice AD m1 d1] 31 (0, 0)) from (hb1.block _ (by omega)).trans (blkOld H0.out (allocB W0 _)))
  have B1 := Lib.hid (show Below w.heap.size w w1 from (joinB B0.out (allocB W0 (.cells #[] 66))).trans (hb1.mono (by omega)))
  have HO := Lib.hid (own_reads ho1)
  have HR1 := Lib.hid (HR.out.below B1.out)
  clear ho1 hg1 hb1 H0 B0 HSZ hsz0 HRD HR
  have Z0 : Below w1.heap.size w1 w1.drew := (Below.refl _ w1).drew
  refine wp_region_held_drew (S := (fun u => Below w1.heap.size w1 u)) (by kernel_rfl) ?_ (fun hHeld => ?_)
  · first | exact hSn | exact Z0
  refine rdH 0 (some 9) rfl (fun K hK => ?_)
  go_simp
  refine (HAW.out _).mono ?_; rintro e w4 ⟨rfl, hb4⟩
  have Z1 := joinB Z0 hb4
  have hSn := Z1
  refine hK.out _ _ ?_ (fun hHeld => ?_)
  · first | exact hSn | exact Z0
  clear hK K
  try simp only [Act.put, List.setIfInBounds_toArray, List.set_cons_zero, List.set_cons_succ]
  refine tkW 1 (some 10) (v := ?_) rfl ?_ ?_
  rotate_left
  · intro u hSu; clear hSu; go_simp; (try with_reducible rfl)
  try simp only [Act.put, List.setIfInBounds_toArray, List.set_cons_zero, List.set_cons_succ]
  refine tkW 2 (some 11) (v := ?_) rfl ?_ ?_
  rotate_left
  · intro u hSu; clear hSu; go_simp; (try with_reducible rfl)
  try simp only [Act.put, List.setIfInBounds_toArray, List.set_cons_zero, List.set_cons_succ]
  refine tkV 3 (some 12) (v := .agg #[.int .i64 lsn, .int .i64 prev, .int .i64 txn, .int .i64 kind, .int .i64 page, .int .i64 next, .int .i64 nu, .int .i64 ok, .int .i64 os, .string oo, .string on, .int .i64 how, .int .i64 root, .string ek, .int .i64 ep, .int .i64 es, .slice AT n1 c1, .slice AD m1 d1]) rfl (yieldsIf_load_mid (by rfl) 31 (.tmp 3) rfl w.heap.size 0 (by rfl) #[.int .i64 lsn, .int .i64 prev, .int .i64 txn, .int .i64 kind, .int .i64 page, .int .i64 next, .int .i64 nu, .int .i64 ok, .int .i64 os, .string oo, .string on, .int .i64 how, .int .i64 root, .string ek, .int .i64 ep, .int .i64 es, .slice AT n1 c1, .slice AD m1 d1].toList _ (fun u hu => (by intro j v hj; rw [Nat.zero_add, blkCell (blkOld HX.out hu)]; simpa using hj)) Try.underlying31 (by kernel_rfl) (by kernel_rfl)) ?_
  try simp only [Act.put, List.setIfInBounds_toArray, List.set_cons_zero, List.set_cons_succ]
  refine tkW 5 (some 14) (v := ?_) rfl ?_ ?_
  rotate_left
  · intro u hSu; clear hSu; go_simp; (try with_reducible rfl)
  try simp only [Act.put, List.setIfInBounds_toArray, List.set_cons_zero, List.set_cons_succ]
  refine tkV 6 (some 15) (v := .agg #[.int .i64 lsn, .int .i64 prev, .int .i64 txn, .int .i64 kind, .int .i64 page, .int .i64 next, .int .i64 nu, .int .i64 ok, .int .i64 os, .string oo, .string on, .int .i64 how, .int .i64 root, .string ek, .int .i64 ep, .int .i64 es, .slice AT n1 c1, .slice AD m1 d1]) rfl (yieldsIf_load_mid (by rfl) 31 (.tmp 3) rfl w.heap.size 0 (by rfl) #[.int .i64 lsn, .int .i64 prev, .int .i64 txn, .int .i64 kind, .int .i64 page, .int .i64 next, .int .i64 nu, .int .i64 ok, .int .i64 os, .string oo, .string on, .int .i64 how, .int .i64 root, .string ek, .int .i64 ep, .int .i64 es, .slice AT n1 c1, .slice AD m1 d1].toList _ (fun u hu => (by intro j v hj; rw [Nat.zero_add, blkCell (blkOld HX.out hu)]; simpa using hj)) Try.underlying31 (by kernel_rfl) (by kernel_rfl)) ?_
  try simp only [Act.put, List.setIfInBounds_toArray, List.set_cons_zero, List.set_cons_succ]
  refine rdH 4 (some 13) rfl (fun K hK => ?_)
  go_simp
  refine (HNT.out _ _ _ (HO.out.below Z1)).mono ?_; rintro e w5 ⟨A5, c5, rfl, hr5, -, hb5⟩
  have Z2 := joinB Z1 hb5
  clear hSn
  have hSn := Z2
  refine hK.out _ _ ?_ (fun hHeld => ?_)
  · first | exact hSn | exact Z0
  clear hK K
  try simp only [Act.put, List.setIfInBounds_toArray, List.set_cons_zero, List.set_cons_succ]
  refine rdH 7 (some 16) rfl (fun K hK => ?_)
  go_simp
  refine (HRN.out _ _ _ (HR1.out.below Z2)).mono ?_; rintro e w6 ⟨A6, c6, rfl, hr6, hb6⟩
  have Z3 := joinB Z2 hb6
  clear hSn
  have hSn := Z3
  refine hK.out _ _ ?_ (fun hHeld => ?_)
  · first | exact hSn | exact Z0
  clear hK K
  try simp only [Act.put, List.setIfInBounds_toArray, List.set_cons_zero, List.set_cons_succ]
  refine rdH 8 (some 17) rfl (fun K hK => ?_)
  go_simp
  refine (HT1.out _ _ _ _ _ (hr5.below hb6) hr6).mono ?_; rintro e w7 ⟨rfl, hb7⟩
  have Z4 := joinB Z3 hb7
  clear hSn
  have hSn := Z4
  refine hK.out _ _ ?_ (fun hHeld => ?_)
  · first | exact hSn | exact Z0
  clear hK K
  try simp only [Act.put, List.setIfInBounds_toArray, List.set_cons_zero, List.set_cons_succ]
  refine tkW 9 (some 18) (v := ?_) rfl ?_ ?_
  rotate_left
  · intro u hSu; clear hSu; go_simp; (try with_reducible rfl)
  try simp only [Act.put, List.setIfInBounds_toArray, List.set_cons_zero, List.set_cons_succ]
  refine tkW 10 (some 19) (v := ?_) rfl ?_ ?_
  rotate_left
  · intro u hSu; clear hSu; go_simp; (try with_reducible rfl)
  try simp only [Act.put, List.setIfInBounds_toArray, List.set_cons_zero, List.set_cons_succ]
  refine tkW 11 (some 20) (v := ?_) rfl ?_ ?_
  rotate_left
  · intro u hSu; clear hSu; go_simp; (try with_reducible rfl)
  try simp only [Act.put, List.setIfInBounds_toArray, List.set_cons_zero, List.set_cons_succ]
  refine tkW 12 (some 21) (v := ?_) rfl ?_ ?_
  rotate_left
  · intro u hSu; clear hSu; go_simp; (try with_reducible rfl)
  try simp only [Act.put, List.setIfInBounds_toArray, List.set_cons_zero, List.set_cons_succ]
  refine rdH 13 (some 22) rfl (fun K hK => ?_)
  go_simp
  refine (HT2.out _ _ _ _ _ (HO.out.below Z4) (HR1.out.below Z4)).mono ?_; rintro e w8 ⟨rfl, hb8⟩
  have Z5 := joinB Z4 hb8
  clear hSn
  have hSn := Z5
  refine hK.out _ _ ?_ (fun hHeld => ?_)
  · first | exact hSn | exact Z0
  clear hK K
  try simp only [Act.put, List.setIfInBounds_toArray, List.set_cons_zero, List.set_cons_succ]
  refine tkW 14 (some 23) (v := ?_) rfl ?_ ?_
  rotate_left
  · intro u hSu; clear hSu; go_simp; (try with_reducible rfl)
  try simp only [Act.put, List.setIfInBounds_toArray, List.set_cons_zero, List.set_cons_succ]
  refine tkW 15 (some 4) (v := ?_) rfl ?_ ?_
  rotate_left
  · intro u hSu; clear hSu; go_simp; (try with_reducible rfl)
  try simp only [Act.put, List.setIfInBounds_toArray, List.set_cons_zero, List.set_cons_succ]
  refine wpAnyH_done (by kernel_rfl) ?_ _
  clear hHeld hSn
  go_wp2_with fail
  go_ret
  exact ⟨rfl, joinB B1.out Z5⟩
end Go.Proofs.Ythfglhafphfhiaa
