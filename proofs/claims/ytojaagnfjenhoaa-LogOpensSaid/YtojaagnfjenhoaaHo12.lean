/- The walks over the references of disk and log: Is, Read, May, sectors. -/
import Derived.Test.YtojaagnfjenhoaaHo10
import Derived.Test.YtojaagnfjenhoaaHo11
import Derived.Test.YtojaagnfjenhoaaHo04
import Derived.Test.YtojaagnfjenhoaaHo03
namespace Go.Proofs.Ytojaagnfjenhoaa
open Go.RowKit
set_option maxRecDepth 100000 in
theorem ris_any (d : Lg.Dk) (A : Option Addr) (c : Nat) (a : Int) (w : World) :
    Calls Try.prog 70 #[diskV d A c, .int .i64 a] w fun e w' => e = .returned (.bool (decide (Lg.hasD d a))) ∧ Below w.heap.size w w' := by
  obtain ⟨L, left, down⟩ := d
  by_cases h0 : 0 ≤ a
  · by_cases h1 : a < (L.length : Int)
    · rw [decide_eq_true (show Lg.hasD ⟨L, left, down⟩ a from And.intro h0 h1)]
      go_enter Try.func70, Try.ntmps70
      go_wp2_with fail
      go_ret
      exact ⟨by simp, allocB _ _⟩
    · rw [decide_eq_false (show ¬ Lg.hasD ⟨L, left, down⟩ a from fun h => h1 h.2)]
      go_enter Try.func70, Try.ntmps70
      go_wp2_with fail
      go_ret
      exact ⟨by simp, allocB _ _⟩
  · rw [decide_eq_false (show ¬ Lg.hasD ⟨L, left, down⟩ a from fun h => h0 h.1)]
    go_enter Try.func70, Try.ntmps70
    go_wp2_with fail
    go_ret
    exact ⟨by simp, allocB _ _⟩
set_option maxRecDepth 100000 in
set_option maxHeartbeats 1000000 in
theorem rdread_any (d : Lg.Dk) (A : Option Addr) (c : Nat) (a : Int) (w : World) (h : DiskR w d A c) :
    Calls Try.prog 39 #[diskV d A c, .int .i64 a] w fun e w' => e = .returned (.tuple #[.string (Lg.readD d a).1, .int .i64 (Lg.readD d a).2]) ∧ Below w.heap.size w w' := by
  have HH := Lib.hid (fun W => ris_any d A c a W)
  have HR := Lib.hid h.secs
  clear h
  unfold Lg.readD
  cases hd : d.down with
  | true =>
    obtain ⟨L, left, down⟩ := d
    simp only at hd
    subst hd
    rw [if_pos rfl]
    dsimp only [diskV]
    go_enter Try.func39, Try.ntmps39
    go_wp2_with fail
    go_ret2
    exact ⟨rfl, allocB _ _⟩
  | false =>
    rw [if_neg (by simp)]
    by_cases hh : Lg.hasD d a
    · rw [if_pos hh]
      rw [decide_eq_true hh] at HH
      obtain ⟨L, left, down⟩ := d
      simp only at hd
      subst hd
      unfold Lg.hasD at hh
      unfold Lg.secAt
      dsimp only [diskV] at hh HH HR ⊢
      obtain ⟨h0, h1⟩ := hh
      obtain ⟨k, rfl⟩ := Int.eq_ofNat_of_zero_le h0
      have hk : k < L.length := by omega
      obtain ⟨b, off, rfl, hc, hbl, hcell⟩ := read_at strC_len HR.out hk
      have q0 := hcell 0 _ rfl
      simp only [Nat.mul_one, Nat.add_zero] at q0
      rw [Int.toNat_natCast, List.getElem?_eq_getElem hk, Option.getD_some]
      generalize L[k] = x at q0 ⊢
      have Q0 := Lib.hid q0
      clear q0 hcell h0
      go_enter Try.func39, Try.ntmps39
      go_upto_region 5 with (go_at_call 70; (with_reducible refine (HH.out _).mono ?_); rintro e w1 ⟨rfl, hb1⟩; have hbx := blkCell (blkNew hb1))
      have q1 : w1.cell? ⟨b, off + k, none⟩ = some (.string x) := (joinB (allocB w _) hb1).cell (p := ⟨b, off + k, none⟩) hbl |>.trans Q0.out
      have HB1 := Lib.hid (joinB (allocB w _) hb1)
      clear hb1
      go_wp2_with fail
      go_ret2
      exact ⟨rfl, HB1.out⟩
    · rw [if_neg hh]
      rw [decide_eq_false hh] at HH
      clear hh
      obtain ⟨L, left, down⟩ := d
      simp only at hd
      subst hd
      dsimp only [diskV] at HH ⊢
      go_enter Try.func39, Try.ntmps39
      go_wp2_with (go_at_call 70; (with_reducible refine (HH.out _).mono ?_); rintro e w1 ⟨rfl, hb1⟩)
      go_ret2
      exact ⟨rfl, joinB (allocB _ _) hb1⟩
/-- What the reference's May says. -/
def Lg.mayD (d : Lg.Dk) : Prop := (∀ x ∈ d.sectors, x.size = 128) ∧ 1 ≤ (d.sectors.length : Int) ∧ (d.sectors.length : Int) ≤ 65536 ∧ -1 ≤ d.left ∧ (d.down = true → d.left = 0)
instance (d : Lg.Dk) : Decidable (Lg.mayD d) := by unfold Lg.mayD; exact inferInstance
def MayOut (d : Lg.Dk) (w : World) (e : Ending) (w' : World) : Prop := e = .returned (.bool (decide (Lg.mayD d))) ∧ Below w.heap.size w w'
set_option maxRecDepth 100000 in
set_option maxHeartbeats 4000000 in
theorem rmay_any (d : Lg.Dk) (A : Option Addr) (c : Nat) (w : World) (hr : Reads w A c d.sectors.length (d.sectors.flatMap strC)) (hsm : d.sectors.length ≤ 140737488355328) :
    Calls Try.prog 6 #[diskV d A c] w (MayOut d w) := by
  obtain ⟨L, left, down⟩ := d
  have HR := Lib.hid hr
  have HQ := Lib.hid (fun (b : Bool) w' (hb : Below w.heap.size w w') (h1 : b = decide (Lg.mayD ⟨L, left, down⟩)) => show MayOut ⟨L, left, down⟩ w (.returned (.bool b)) w' from ⟨by rw [h1], hb⟩)
  have HNO := Lib.hid (show ¬ Lg.mayD ⟨L, left, down⟩ → false = decide (Lg.mayD ⟨L, left, down⟩) from fun h => (decide_eq_false h).symm)
  have HYE := Lib.hid (show Lg.mayD ⟨L, left, down⟩ → true = decide (Lg.mayD ⟨L, left, down⟩) from fun h => (decide_eq_true h).symm)
  dsimp only at hsm HR
  clear hr
  generalize MayOut ⟨L, left, down⟩ w = Q at HQ ⊢
  dsimp only [diskV]
  go_enter Try.func6, Try.ntmps6
  go_upto_region 1 with fail
  have hw0 : Below w.heap.size w (w.alloc (.cells #[.slice A L.length c, .int .i64 left, .bool down] 24)) := allocB _ _
  have hx0 := heap_alloc_new w (.cells #[.slice A L.length c, .int .i64 left, .bool down] 24)
  obtain ⟨W0, hW0⟩ : ∃ W, W = w.alloc (.cells #[.slice A L.length c, .int .i64 left, .bool down] 24) := ⟨_, rfl⟩
  rw [← hW0] at hw0 hx0
  rw [← hW0]
  have hrr := HR.out.below hw0
  have HX := Lib.hid hx0
  have HB := Lib.hid hw0
  have HRR := Lib.hid hrr
  clear hW0 hw0 hx0 hrr HR
  have hcx := blkCell HX.out
  have HALL0 : Hid (∀ j, (hj : j < L.length) → j < 0 → (L[j]).size = 128) := Lib.hid (fun j _ h => absurd h (by omega))
  go_wp2_with fail
  go_loopw [3] (fun i wr => ∃ k : Nat, i = .int .i64 (k : Int) ∧ k ≤ L.length ∧ (∀ j, (hj : j < L.length) → j < k → (L[j]).size = 128) ∧ wr = W0) (fun i _ => L.length - (intOf i).toNat)
  case atStart => exact ⟨0, rfl, Nat.zero_le _, HALL0.out, rfl⟩
  case round =>
    obtain ⟨k, rfl, hk, hall, rfl⟩ := hrel
    have HALL := Lib.hid hall
    clear hall HALL0
    by_cases hlt : k < L.length
    · have hki : (k : Int) < (L.length : Int) := by omega
      have hk0 : (0 : Int) ≤ (k : Int) := by omega
      obtain ⟨b, off, rfl, hc, hbl, hcell⟩ := read_at strC_len HRR.out hlt
      have q0 := hcell 0 _ rfl
      simp only [Nat.mul_one, Nat.add_zero] at q0
      have HSX := Lib.hid (show ((L[k]).size = 128) → ∀ j, (hj : j < L.length) → j < k + 1 → (L[j]).size = 128 from fun h0 j hj hjk => by
        by_cases hj2 : j < k
        · exact HALL.out j hj hj2
        · obtain rfl : j = k := by omega
          exact h0)
      have HNX := Lib.hid (show ¬ (L[k]).size = 128 → ¬ Lg.mayD ⟨L, left, down⟩ from fun h0 hm => h0 (hm.1 _ (List.getElem_mem hlt)))
      generalize L[k] = x at q0 HSX HNX
      by_cases hx : x.size = 128
      · have HN := Lib.hid (HSX.out hx)
        have hx1 : ((x.size : Int) == 128) = true := by simp; omega
        have hx2 : ((x.size : Int) != 128) = false := by simp; omega
        have hwk : IntKind.i64.wrap ((k : Int) + 1) = (k : Int) + 1 := IntWalk.i64_in _ (by omega)
        clear hcell HSX HALL
        go_wp2_with fail
        go_roundw
        case rel => exact ⟨k + 1, by go_num, hlt, HN.out, by trivial⟩
        case measure => simp [intOf]; omega
      · have hx1 : ((x.size : Int) == 128) = false := by simp; omega
        have hx2 : ((x.size : Int) != 128) = true := by simp; omega
        clear hcell HSX HALL
        go_wp2_with fail
        exact HQ.out false _ HB.out (HNO.out (HNX.out hx))
    · have hki : ¬ (k : Int) < (L.length : Int) := by omega
      have HAL := Lib.hid (show ∀ x ∈ L, x.size = 128 from fun x hx => by
        obtain ⟨j, hj, rfl⟩ := List.getElem_of_mem hx
        exact HALL.out j hj (by omega))
      clear HALL
      by_cases h1 : (1 : Int) ≤ (L.length : Int)
      · by_cases h2 : (L.length : Int) ≤ 65536
        · by_cases h3 : (-1 : Int) ≤ left
          · cases down with
            | true =>
              by_cases h4 : left = 0
              · have h5 : (left == 0) = true := by simpa using h4
                go_wp2_with fail
                exact HQ.out _ _ HB.out (by (try simp only [h5]); exact HYE.out ⟨HAL.out, h1, h2, h3, fun _ => h4⟩)
              · have h5 : (left == 0) = false := by simpa using h4
                go_wp2_with fail
                exact HQ.out _ _ HB.out (by (try simp only [h5]); exact HNO.out (fun h => h4 (h.2.2.2.2 rfl)))
            | false =>
              go_wp2_with fail
              exact HQ.out _ _ HB.out (HYE.out ⟨HAL.out, h1, h2, h3, fun h => by cases h⟩)
          · go_wp2_with fail
            exact HQ.out _ _ HB.out (HNO.out (fun h => by have h8 : -1 ≤ left := h.2.2.2.1; omega))
        · go_wp2_with fail
          exact HQ.out _ _ HB.out (HNO.out (fun h => by have h8 : (L.length : Int) ≤ 65536 := h.2.2.1; omega))
      · go_wp2_with fail
        exact HQ.out _ _ HB.out (HNO.out (fun h => by have h8 : 1 ≤ (L.length : Int) := h.2.1; omega))
theorem add_mkS (l : List UInt8) (x : ByteArray) (h : l.length + x.size ≤ 1000000) (W : World) : (Op.stringOp .add (Rc.mk l) x).run Try.prog W = .ok (.string (Rc.mk (l ++ x.data.toList))) W := by
  have h1 := add_mk l x.data.toList (by have : x.data.toList.length = x.size := (by simp); omega) W
  have h2 : Rc.mk x.data.toList = x := rfl
  rw [h2] at h1
  exact h1
set_option maxRecDepth 100000 in
set_option maxHeartbeats 4000000 in
theorem rsectors_any (d : Lg.Dk) (hw : ∀ b ∈ d.sectors, b.size ≤ 1000) (A : Option Addr) (c : Nat) (f : Int) (a : Nat) (n : Int) (hf1 : -9223372036854775808 ≤ f + (a : Int)) (hf2 : f + (a : Int) ≤ 9223372036854775807) (ha : a ≤ 1000) (hn : n ≤ 1000) (w : World) (h : DiskR w d A c) :
    Calls Try.prog 21 #[diskV d A c, .int .i64 f, .int .i64 (a : Int), .int .i64 n] w (SecOut (Lg.secsD d (f + (a : Int)) (n - (a : Int)).toNat) w) := by
  have HR := Lib.hid (fun a W (hb : Below w.heap.size w W) => rdread_any d A c a W (h.below hb))
  have hsm := h.small
  obtain ⟨N, hN⟩ : ∃ N, N = (n - (a : Int)).toNat := ⟨_, rfl⟩
  rw [← hN]
  have hmax : (N : Int) = max (n - (a : Int)) 0 := by omega
  have hN2 : N ≤ 1000 := by omega
  obtain ⟨q, hq⟩ : ∃ q, q = f + (a : Int) := ⟨_, rfl⟩
  rw [← hq] at hf1 hf2
  rw [← hq]
  have HF := Lib.hid (fun r (hr : Lg.secsD d q N = r) w' (hb : Below w.heap.size w w') => show SecOut (Lg.secsD d q N) w (.returned (secV r)) w' from ⟨hb, by rw [hr]⟩)
  have HA := Lib.hid (Lg.Acc.zero d q N)
  have HW := Lib.hid hw
  generalize SecOut (Lg.secsD d q N) w = Q at HF ⊢
  have HS := Lib.hid (show (d.sectors.length : Int) ≤ 1000000 by omega)
  have HMX := Lib.hid hmax
  have HQE := Lib.hid hq
  clear h hN hw hsm hmax hq
  dsimp only [diskV] at HR ⊢
  go_enter Try.func21, Try.ntmps21
  go_upto_region 1 with fail
  have H0 := Lib.hid (show BxL w.heap.size w [(#[.slice A d.sectors.length c, .int .i64 d.left, .bool d.down], 24)] (w.alloc (.cells #[.slice A d.sectors.length c, .int .i64 d.left, .bool d.down] 24)) from (BxL.nil (Below.refl w.heap.size w)).new (by simp) #[.slice A d.sectors.length c, .int .i64 d.left, .bool d.down] 24)
  obtain ⟨W0, hW0⟩ : ∃ W, W = w.alloc (.cells #[.slice A d.sectors.length c, .int .i64 d.left, .bool d.down] 24) := ⟨_, rfl⟩
  rw [← hW0] at H0 ⊢
  clear hW0
  go_wp2_with fail
  go_loopw [10, 11] (fun s i wr => ∃ (k : Nat) (l : List UInt8), s = .string (Rc.mk l) ∧ i = .int .i64 ((a : Int) + (k : Int)) ∧ Lg.Acc d q N k l ∧ l.length ≤ k * 1000 ∧ (0 < k → 0 ≤ q ∧ q + (k : Int) ≤ 1000000) ∧ BxL w.heap.size w [(#[.slice A d.sectors.length c, .int .i64 d.left, .bool d.down], 24)] wr) (fun _ i _ => N - (intOf i - (a : Int)).toNat)
  case atStart => exact ⟨0, [], rfl, by simp, HA.out, Nat.le_refl _, fun h => absurd h (by omega), H0.out⟩
  case round =>
    obtain ⟨k, l, rfl, rfl, hacc, hll, hfk, hbx⟩ := hrel
    have HAC := Lib.hid hacc
    have HX := Lib.hid hbx
    have HFK := Lib.hid hfk
    have hkN := hacc.le
    clear hacc hbx hfk H0 HA
    by_cases hlt : k < N
    · have hin : (a : Int) + (k : Int) < n := by have := HMX.out; omega
      have hwr : IntKind.i64.wrap (f + ((a : Int) + (k : Int))) = q + (k : Int) := by
        have e : f + ((a : Int) + (k : Int)) = q + (k : Int) := by have := HQE.out; omega
        rw [e]
        refine IntWalk.i64_in _ ?_
        rcases Nat.eq_zero_or_pos k with h0 | h0
        · subst h0; simp; omega
        · have := HFK.out h0; omega
      have hRD := HR.out (q + (k : Int)) wr HX.out.below
      have HACE := Lib.hid (fun h => HAC.out.fault hlt h)
      have HACN := Lib.hid (fun h => HAC.out.next hlt h)
      have HINK := Lib.hid (@Lg.readD_in d (q + (k : Int)))
      have HSZ := Lib.hid (@Lg.secAt_size d (q + (k : Int)) HW.out)
      generalize Lg.readD d (q + (k : Int)) = rd at hRD HACE HACN HINK
      obtain ⟨x, e⟩ := rd
      simp only at hRD HACE HACN HINK
      have HRD := Lib.hid hRD
      clear hRD HAC
      by_cases he : e = 0
      · subst he
        have HACN2 := Lib.hid (HACN.out rfl)
        have hin := HINK.out rfl
        have hxs : x.size ≤ 1000 := by rw [hin.2]; exact HSZ.out
        have hfk2 : 0 ≤ q ∧ q + ((k + 1 : Nat) : Int) ≤ 1000000 := by
          have h1 := hin.1.1
          have h2 := hin.1.2
          have h3 := HS.out
          refine ⟨?_, by omega⟩
          rcases Nat.eq_zero_or_pos k with h0 | h0
          · subst h0; simpa using h1
          · exact (HFK.out h0).1
        have HFK2 := Lib.hid hfk2
        have hl2 : (l ++ x.data.toList).length ≤ (k + 1) * 1000 := by rw [List.length_append]; simp; omega
        have HL2 := Lib.hid hl2
        have hadd := add_mkS l x (by omega)
        obtain ⟨S2, hS2⟩ : ∃ S, S = Rc.mk (l ++ x.data.toList) := ⟨_, rfl⟩
        rw [← hS2] at hadd
        have HS2 := Lib.hid hS2
        obtain ⟨S1, hS1⟩ : ∃ S, S = Rc.mk l := ⟨_, rfl⟩
        rw [← hS1] at hadd
        rw [← hS1]
        have hwk : IntKind.i64.wrap ((a : Int) + (k : Int) + 1) = (a : Int) + (k : Int) + 1 := IntWalk.i64_in _ (by omega)
        clear hin hfk2 hl2 HACN HACE HINK HSZ HFK hS1 hS2
        go_wp2_with (first
          | (with_reducible refine listLoad (by kernel_rfl) 24 (.tmp 4) rfl w.heap.size rfl #[.slice A d.sectors.length c, .int .i64 d.left, .bool d.down] _ HX.out.get0 _ Try.underlying24 (by kernel_rfl) (by kernel_rfl) ?_)
          | (go_at_call 39; (with_reducible refine HRD.out.mono ?_); rintro e w1 ⟨rfl, hb1⟩; have HX1 := Lib.hid (HX.out.step hb1); clear hb1))
        go_roundw
        case rel => exact ⟨k + 1, l ++ x.data.toList, by rw [← HS2.out], by go_num, HACN2.out, HL2.out, fun _ => HFK2.out, HX1.out⟩
        case measure => simp [intOf]; omega
      · have HACE2 := Lib.hid (HACE.out he)
        have he1 : (e == 0) = false := by simpa using he
        have he2 : (e != 0) = true := by simpa using he
        clear he HACN HACE HINK HSZ HFK
        go_wp2_with (first
          | (with_reducible refine listLoad (by kernel_rfl) 24 (.tmp 4) rfl w.heap.size rfl #[.slice A d.sectors.length c, .int .i64 d.left, .bool d.down] _ HX.out.get0 _ Try.underlying24 (by kernel_rfl) (by kernel_rfl) ?_)
          | (go_at_call 39; (with_reducible refine HRD.out.mono ?_); rintro e w1 ⟨rfl, hb1⟩; have HX1 := Lib.hid (HX.out.step hb1); clear hb1))
        exact HF.out _ HACE2.out _ HX1.out.below
    · obtain rfl : k = N := by omega
      have hin : ¬ (a : Int) + (k : Int) < n := by have := HMX.out; omega
      have HDN := Lib.hid HAC.out.done
      go_wp2_with fail
      exact HF.out _ HDN.out _ HX.out.below
set_option maxRecDepth 100000 in
theorem rfirst_any (f n e s : Int) (t : ByteArray) (hs0 : 0 ≤ s) (hs : s ≤ 1000000000) (w : World) :
    Calls Try.prog 23 #[.agg #[.int .i64 f, .int .i64 n, .int .i64 e, .int .i64 s, .string t]] w fun x w' => x = .returned (.int .i64 (s / 128)) ∧ Below w.heap.size w w' := by
  have hq : s.tdiv 128 = s / 128 := Int.tdiv_eq_ediv_of_nonneg hs0
  have hwq : IntKind.i64.wrap (s / 128) = s / 128 := IntWalk.i64_in _ (by omega)
  have hwq2 : IntKind.i64.wrap (s.tdiv 128) = s / 128 := by rw [hq]; exact hwq
  go_enter Try.func23, Try.ntmps23
  go_wp2_with fail
  go_ret
  exact ⟨by simp, allocB _ _⟩
end Go.Proofs.Ytojaagnfjenhoaa
/- The walks over the reference of records: its reader's numbers and texts. -/
namespace Go.Proofs.Ytojaagnfjenhoaa
open Go.RowKit
theorem there_no (s : ByteArray) (a size : Nat) (hin : ¬ a + size ≤ s.size) (hm : s.size ≤ 281474976710656) (ha : a ≤ 281474976710656) (w : World) :
    Calls Try.prog 71 #[.string s, .int .i64 (a : Int), .int .i64 (size : Int)] w fun e w' => e = .returned (.bool false) ∧ w = w' := by
  have hw : IntKind.i64.wrap ((s.size : Int) - (a : Int)) = (s.size : Int) - (a : Int) := IntWalk.i64_in _ (by omega)
  by_cases h1 : (a : Int) ≤ (s.size : Int)
  · have h2 : ¬ (size : Int) ≤ (s.size : Int) - (a : Int) := by omega
    go_enter Try.func71, Try.ntmps71
    go_wp2_with fail
    go_ret
    exact ⟨by simp; try omega, rfl⟩
  · go_enter Try.func71, Try.ntmps71
    go_wp2_with fail
    go_ret
    exact ⟨by simp; try omega, rfl⟩
theorem rget_no (s : ByteArray) (a size : Nat) (hs1 : 1 ≤ size) (hs8 : size ≤ 8) (hin : ¬ a + size ≤ s.size) (hm : s.size ≤ 281474976710656) (ha : a ≤ 281474976710656) (w : World) :
    Calls Try.prog 40 #[.string s, .int .i64 (a : Int), .int .i64 (size : Int)] w fun e w' => e = .returned (.tuple #[.int .i64 0, .bool false]) ∧ w = w' := by
  have HT := Lib.hid (fun W => there_no s a size hin hm ha W)
  have h1 : ¬ (size : Int) < 1 := by omega
  have h8 : ¬ (8 : Int) < (size : Int) := by omega
  go_enter Try.func40, Try.ntmps40
  go_wp2_with (go_at_call 71; (with_reducible refine (HT.out _).mono ?_); rintro e w1 ⟨rfl, rfl⟩)
  go_ret2
  exact ⟨rfl, rfl⟩
/-- The reader's box. -/
abbrev iC (s : ByteArray) (a : Nat) (bad : Bool) : Array Value := #[.string s, .int .i64 (a : Int), .bool bad]
def INumOut (s : ByteArray) (y : Int × Rc.St) (b : Nat) (w : World) (e : Ending) (w' : World) : Prop :=
  e = .returned (.int .i64 y.1) ∧ w'.heap[b]? = some (.cells (iC s y.2.at_ y.2.bad) 132 (0, 0)) ∧ KeptB w.heap.size b w w'
set_option maxRecDepth 100000 in
set_option maxHeartbeats 2000000 in
theorem inum_yes (b : Nat) (s : ByteArray) (a : Nat) (bad : Bool) (k : Nat) (h1 : 1 ≤ k) (h6 : k ≤ 6) (hm : s.size ≤ 1000000000) (hin : a + k ≤ s.size) (n : Nat) (hn : Oct.getN s.data.toList a k = n) (w : World) (hb : w.heap[b]? = some (.cells (iC s a bad) 132 (0, 0))) :
    Calls Try.prog 73 #[.pointer (some ⟨b, 0, none⟩), .int .i64 (k : Int)] w (INumOut s ((n : Int), ⟨a + k, bad⟩) b w) := by
  have hi : Oct.intOf (Oct.getN s.data.toList a k) = (n : Int) := by
    have hp := getN_small s.data.toList a k
    have h2 : 256 ^ k ≤ 256 ^ 6 := Nat.pow_le_pow_right (by omega) h6
    have h3 : Oct.getN s.data.toList a k < 281474976710656 := Nat.lt_of_lt_of_le hp h2
    rw [← hn]; unfold Oct.intOf; rw [if_pos (by omega)]
  have HG := Lib.hid (fun W => by (have h := rget_yes s a k h1 (by omega) hin (by omega) W); rw [hi] at h; exact h)
  have hw : IntKind.i64.wrap ((a : Int) + (k : Int)) = ((a + k : Nat) : Int) := by rw [Int.natCast_add]; exact IntWalk.i64_in _ (by omega)
  have HX := Lib.hid hb
  clear hb hi hn
  go_enter Try.func73, Try.ntmps73
  go_upto_region 1 with fail
  have X0 := blkOld HX.out (Below.refl _ w).drew
  refine wp_region_held_drew (S := (fun u => u.heap[b]? = some (.cells (iC s a bad) 132 (0, 0)))) (by kernel_rfl) ?_ (fun hHeld => ?_)
  · first | exact hSn | exact X0
  refine wpAnyH_take (i := 0) (oi := { dst := some 8, op := _, type := _, pos := _, after := _, guard := _ }) (v := ?_) rfl (by kernel_rfl) (by kernel_rfl) (by kernel_rfl) (fun _ _ _ h => h) (Or.inl ⟨by rfl, ?_⟩) (by assumption) ?_
  rotate_left
  · intro u hSu; have hSv := blkCell hSu; clear hSu; go_simp; (try with_reducible rfl)
  try simp only [Act.put, List.setIfInBounds_toArray, List.set_cons_zero, List.set_cons_succ]
  refine wpAnyH_take (i := 1) (oi := { dst := some 9, op := _, type := _, pos := _, after := _, guard := _ }) (v := ?_) rfl (by kernel_rfl) (by kernel_rfl) (by kernel_rfl) (fun _ _ _ h => h) (Or.inl ⟨by rfl, ?_⟩) (by assumption) ?_
  rotate_left
  · intro u hSu; have hSv := blkCell hSu; clear hSu; go_simp; (try with_reducible rfl)
  try simp only [Act.put, List.setIfInBounds_toArray, List.set_cons_zero, List.set_cons_succ]
  refine wpAnyH_take (i := 2) (oi := { dst := some 10, op := _, type := _, pos := _, after := _, guard := _ }) (v := ?_) rfl (by kernel_rfl) (by kernel_rfl) (by kernel_rfl) (fun _ _ _ h => h) (Or.inl ⟨by rfl, ?_⟩) (by assumption) ?_
  rotate_left
  · intro u hSu; have hSv := blkCell hSu; clear hSu; go_simp; (try with_reducible rfl)
  try simp only [Act.put, List.setIfInBounds_toArray, List.set_cons_zero, List.set_cons_succ]
  refine wpAnyH_take (i := 3) (oi := { dst := some 11, op := _, type := _, pos := _, after := _, guard := _ }) (v := ?_) rfl (by kernel_rfl) (by kernel_rfl) (by kernel_rfl) (fun _ _ _ h => h) (Or.inl ⟨by rfl, ?_⟩) (by assumption) ?_
  rotate_left
  · intro u hSu; have hSv := blkCell hSu; clear hSu; go_simp; (try with_reducible rfl)
  try simp only [Act.put, List.setIfInBounds_toArray, List.set_cons_zero, List.set_cons_succ]
  refine wpAnyH_take (i := 4) (oi := { dst := some 12, op := _, type := _, pos := _, after := _, guard := _ }) (v := ?_) rfl (by kernel_rfl) (by kernel_rfl) (by kernel_rfl) (fun _ _ _ h => h) (Or.inl ⟨by rfl, ?_⟩) (by assumption) ?_
  rotate_left
  · intro u hSu; have hSv := blkCell hSu; clear hSu; go_simp; (try with_reducible rfl)
  try simp only [Act.put, List.setIfInBounds_toArray, List.set_cons_zero, List.set_cons_succ]
  refine wpAnyH_take (i := 5) (oi := { dst := some 13, op := _, type := _, pos := _, after := _, guard := _ }) (v := ?_) rfl (by kernel_rfl) (by kernel_rfl) (by kernel_rfl) (fun _ _ _ h => h) (Or.inl ⟨by rfl, ?_⟩) (by assumption) ?_
  rotate_left
  · intro u hSu; have hSv := blkCell hSu; clear hSu; go_simp; (try with_reducible rfl)
  try simp only [Act.put, List.setIfInBounds_toArray, List.set_cons_zero, List.set_cons_succ]
  refine wpAnyH_take (i := 6) (oi := { dst := some 14, op := _, type := _, pos := _, after := _, guard := _ }) (v := ?_) rfl (by kernel_rfl) (by kernel_rfl) (by kernel_rfl) (fun _ _ _ h => h) (Or.inl ⟨by rfl, ?_⟩) (by assumption) ?_
  rotate_left
  · intro u hSu; have hSv := blkCell hSu; clear hSu; go_simp; (try with_reducible rfl)
  try simp only [Act.put, List.setIfInBounds_toArray, List.set_cons_zero, List.set_cons_succ]
  refine wpAnyH_take (i := 7) (oi := { dst := some 15, op := _, type := _, pos := _, after := _, guard := _ }) (v := ?_) rfl (by kernel_rfl) (by kernel_rfl) (by kernel_rfl) (fun _ _ _ h => h) (Or.inl ⟨by rfl, ?_⟩) (by assumption) ?_
  rotate_left
  · intro u hSu; have hSv := blkCell hSu; clear hSu; go_simp; (try with_reducible rfl)
  try simp only [Act.put, List.setIfInBounds_toArray, List.set_cons_zero, List.set_cons_succ]
  refine wpAnyH_take (i := 8) (oi := { dst := some 16, op := _, type := _, pos := _, after := _, guard := _ }) (v := ?_) rfl (by kernel_rfl) (by kernel_rfl) (by kernel_rfl) (fun _ _ _ h => h) (Or.inl ⟨by rfl, ?_⟩) (by assumption) ?_
  rotate_left
  · intro u hSu; have hSv := blkCell hSu; clear hSu; go_simp; (try with_reducible rfl)
  try simp only [Act.put, List.setIfInBounds_toArray, List.set_cons_zero, List.set_cons_succ]
  refine wpAnyH_ready (rs := [9]) (by kernel_rfl) (by simp) ?_
  refine AllReadyH.cons (o := { dst := some 17, op := _, type := _, pos := _, after := _, guard := _ }) rfl (fun K hK => ?_) ?_
  rotate_left
  · exact AllReadyH.nil
  go_simp
  refine (HG.out _).mono ?_; rintro e w1 ⟨rfl, rfl⟩; have hSn := X0
  refine hK.out _ _ ?_ (fun hHeld => ?_)
  · first | exact hSn | exact X0
  clear hK K
  try simp only [Act.put, List.setIfInBounds_toArray, List.set_cons_zero, List.set_cons_succ]
  refine wpAnyH_take (i := 10) (oi := { dst := some 7, op := _, type := _, pos := _, after := _, guard := _ }) (v := ?_) rfl (by kernel_rfl) (by kernel_rfl) (by kernel_rfl) (fun _ _ _ h => h) (Or.inl ⟨by rfl, ?_⟩) (by assumption) ?_
  rotate_left
  · intro u hSu; have hSv := blkCell hSu; clear hSu; go_simp; (try with_reducible rfl)
  try simp only [Act.put, List.setIfInBounds_toArray, List.set_cons_zero, List.set_cons_succ]
  refine wpAnyH_take (i := 11) (oi := { dst := some 18, op := _, type := _, pos := _, after := _, guard := _ }) (v := ?_) rfl (by kernel_rfl) (by kernel_rfl) (by kernel_rfl) (fun _ _ _ h => h) (Or.inl ⟨by rfl, ?_⟩) (by assumption) ?_
  rotate_left
  · intro u hSu; have hSv := blkCell hSu; clear hSu; go_simp; (try with_reducible rfl)
  try simp only [Act.put, List.setIfInBounds_toArray, List.set_cons_zero, List.set_cons_succ]
  refine wpAnyH_take (i := 12) (oi := { dst := some 19, op := _, type := _, pos := _, after := _, guard := _ }) (v := ?_) rfl (by kernel_rfl) (by kernel_rfl) (by kernel_rfl) (fun _ _ _ h => h) (Or.inl ⟨by rfl, ?_⟩) (by assumption) ?_
  rotate_left
  · intro u hSu; have hSv := blkCell hSu; clear hSu; go_simp; (try with_reducible rfl)
  try simp only [Act.put, List.setIfInBounds_toArray, List.set_cons_zero, List.set_cons_succ]
  refine wpAnyH_take (i := 13) (oi := { dst := some 5, op := _, type := _, pos := _, after := _, guard := _ }) (v := ?_) rfl (by kernel_rfl) (by kernel_rfl) (by kernel_rfl) (fun _ _ _ h => h) (Or.inl ⟨by rfl, ?_⟩) (by assumption) ?_
  rotate_left
  · intro u hSu; have hSv := blkCell hSu; clear hSu; go_simp; (try with_reducible rfl)
  try simp only [Act.put, List.setIfInBounds_toArray, List.set_cons_zero, List.set_cons_succ]
  refine wpAnyH_take (i := 14) (oi := { dst := some 6, op := _, type := _, pos := _, after := _, guard := _ }) (v := ?_) rfl (by kernel_rfl) (by kernel_rfl) (by kernel_rfl) (fun _ _ _ h => h) (Or.inl ⟨by rfl, ?_⟩) (by assumption) ?_
  rotate_left
  · intro u hSu; have hSv := blkCell hSu; clear hSu; go_simp; (try with_reducible rfl)
  try simp only [Act.put, List.setIfInBounds_toArray, List.set_cons_zero, List.set_cons_succ]
  refine wpAnyH_done (by kernel_rfl) ?_ _
  clear hHeld hSn
  have hc := blkCell X0
  have hz := blkFrozen X0
  go_wp2_with fail
  go_ret
  have hs := blkSet 1 X0 (.int .i64 ((a + k : Nat) : Int))
  refine ⟨rfl, ?_, ?_⟩
  · exact hs
  · refine ⟨rfl, rfl, rfl, ?_, fun j hj hne => ?_⟩
    · simp [World.setCell]
    · exact Below.heap_setCell _ _ _ _ hne
set_option maxRecDepth 100000 in
set_option maxHeartbeats 2000000 in
theorem inum_no (b : Nat) (s : ByteArray) (a : Nat) (bad : Bool) (k : Nat) (h1 : 1 ≤ k) (h6 : k ≤ 6) (hm : s.size ≤ 1000000000) (ha : a ≤ 2000000000) (hin : ¬ a + k ≤ s.size) (w : World) (hb : w.heap[b]? = some (.cells (iC s a bad) 132 (0, 0))) :
    Calls Try.prog 73 #[.pointer (some ⟨b, 0, none⟩), .int .i64 (k : Int)] w (INumOut s (0, ⟨a, true⟩) b w) := by
  have HG := Lib.hid (fun W => rget_no s a k h1 (by omega) hin (by omega) (by omega) W)
  have HX := Lib.hid hb
  clear hb
  go_enter Try.func73, Try.ntmps73
  go_upto_region 1 with fail
  have X0 := blkOld HX.out (Below.refl _ w).drew
  refine wp_region_held_drew (S := (fun u => u.heap[b]? = some (.cells (iC s a bad) 132 (0, 0)))) (by kernel_rfl) ?_ (fun hHeld => ?_)
  · first | exact hSn | exact X0
  refine wpAnyH_take (i := 0) (oi := { dst := some 8, op := _, type := _, pos := _, after := _, guard := _ }) (v := ?_) rfl (by kernel_rfl) (by kernel_rfl) (by kernel_rfl) (fun _ _ _ h => h) (Or.inl ⟨by rfl, ?_⟩) (by assumption) ?_
  rotate_left
  · intro u hSu; have hSv := blkCell hSu; clear hSu; go_simp; (try with_reducible rfl)
  try simp only [Act.put, List.setIfInBounds_toArray, List.set_cons_zero, List.set_cons_succ]
  refine wpAnyH_take (i := 1) (oi := { dst := some 9, op := _, type := _, pos := _, after := _, guard := _ }) (v := ?_) rfl (by kernel_rfl) (by kernel_rfl) (by kernel_rfl) (fun _ _ _ h => h) (Or.inl ⟨by rfl, ?_⟩) (by assumption) ?_
  rotate_left
  · intro u hSu; have hSv := blkCell hSu; clear hSu; go_simp; (try with_reducible rfl)
  try simp only [Act.put, List.setIfInBounds_toArray, List.set_cons_zero, List.set_cons_succ]
  refine wpAnyH_take (i := 2) (oi := { dst := some 10, op := _, type := _, pos := _, after := _, guard := _ }) (v := ?_) rfl (by kernel_rfl) (by kernel_rfl) (by kernel_rfl) (fun _ _ _ h => h) (Or.inl ⟨by rfl, ?_⟩) (by assumption) ?_
  rotate_left
  · intro u hSu; have hSv := blkCell hSu; clear hSu; go_simp; (try with_reducible rfl)
  try simp only [Act.put, List.setIfInBounds_toArray, List.set_cons_zero, List.set_cons_succ]
  refine wpAnyH_take (i := 3) (oi := { dst := some 11, op := _, type := _, pos := _, after := _, guard := _ }) (v := ?_) rfl (by kernel_rfl) (by kernel_rfl) (by kernel_rfl) (fun _ _ _ h => h) (Or.inl ⟨by rfl, ?_⟩) (by assumption) ?_
  rotate_left
  · intro u hSu; have hSv := blkCell hSu; clear hSu; go_simp; (try with_reducible rfl)
  try simp only [Act.put, List.setIfInBounds_toArray, List.set_cons_zero, List.set_cons_succ]
  refine wpAnyH_take (i := 4) (oi := { dst := some 12, op := _, type := _, pos := _, after := _, guard := _ }) (v := ?_) rfl (by kernel_rfl) (by kernel_rfl) (by kernel_rfl) (fun _ _ _ h => h) (Or.inl ⟨by rfl, ?_⟩) (by assumption) ?_
  rotate_left
  · intro u hSu; have hSv := blkCell hSu; clear hSu; go_simp; (try with_reducible rfl)
  try simp only [Act.put, List.setIfInBounds_toArray, List.set_cons_zero, List.set_cons_succ]
  refine wpAnyH_take (i := 5) (oi := { dst := some 13, op := _, type := _, pos := _, after := _, guard := _ }) (v := ?_) rfl (by kernel_rfl) (by kernel_rfl) (by kernel_rfl) (fun _ _ _ h => h) (Or.inl ⟨by rfl, ?_⟩) (by assumption) ?_
  rotate_left
  · intro u hSu; have hSv := blkCell hSu; clear hSu; go_simp; (try with_reducible rfl)
  try simp only [Act.put, List.setIfInBounds_toArray, List.set_cons_zero, List.set_cons_succ]
  refine wpAnyH_take (i := 6) (oi := { dst := some 14, op := _, type := _, pos := _, after := _, guard := _ }) (v := ?_) rfl (by kernel_rfl) (by kernel_rfl) (by kernel_rfl) (fun _ _ _ h => h) (Or.inl ⟨by rfl, ?_⟩) (by assumption) ?_
  rotate_left
  · intro u hSu; have hSv := blkCell hSu; clear hSu; go_simp; (try with_reducible rfl)
  try simp only [Act.put, List.setIfInBounds_toArray, List.set_cons_zero, List.set_cons_succ]
  refine wpAnyH_take (i := 7) (oi := { dst := some 15, op := _, type := _, pos := _, after := _, guard := _ }) (v := ?_) rfl (by kernel_rfl) (by kernel_rfl) (by kernel_rfl) (fun _ _ _ h => h) (Or.inl ⟨by rfl, ?_⟩) (by assumption) ?_
  rotate_left
  · intro u hSu; have hSv := blkCell hSu; clear hSu; go_simp; (try with_reducible rfl)
  try simp only [Act.put, List.setIfInBounds_toArray, List.set_cons_zero, List.set_cons_succ]
  refine wpAnyH_take (i := 8) (oi := { dst := some 16, op := _, type := _, pos := _, after := _, guard := _ }) (v := ?_) rfl (by kernel_rfl) (by kernel_rfl) (by kernel_rfl) (fun _ _ _ h => h) (Or.inl ⟨by rfl, ?_⟩) (by assumption) ?_
  rotate_left
  · intro u hSu; have hSv := blkCell hSu; clear hSu; go_simp; (try with_reducible rfl)
  try simp only [Act.put, List.setIfInBounds_toArray, List.set_cons_zero, List.set_cons_succ]
  refine wpAnyH_ready (rs := [9]) (by kernel_rfl) (by simp) ?_
  refine AllReadyH.cons (o := { dst := some 17, op := _, type := _, pos := _, after := _, guard := _ }) rfl (fun K hK => ?_) ?_
  rotate_left
  · exact AllReadyH.nil
  go_simp
  refine (HG.out _).mono ?_; rintro e w1 ⟨rfl, rfl⟩; have hSn := X0
  refine hK.out _ _ ?_ (fun hHeld => ?_)
  · first | exact hSn | exact X0
  clear hK K
  try simp only [Act.put, List.setIfInBounds_toArray, List.set_cons_zero, List.set_cons_succ]
  refine wpAnyH_take (i := 10) (oi := { dst := some 7, op := _, type := _, pos := _, after := _, guard := _ }) (v := ?_) rfl (by kernel_rfl) (by kernel_rfl) (by kernel_rfl) (fun _ _ _ h => h) (Or.inl ⟨by rfl, ?_⟩) (by assumption) ?_
  rotate_left
  · intro u hSu; have hSv := blkCell hSu; clear hSu; go_simp; (try with_reducible rfl)
  try simp only [Act.put, List.setIfInBounds_toArray, List.set_cons_zero, List.set_cons_succ]
  refine wpAnyH_take (i := 11) (oi := { dst := some 18, op := _, type := _, pos := _, after := _, guard := _ }) (v := ?_) rfl (by kernel_rfl) (by kernel_rfl) (by kernel_rfl) (fun _ _ _ h => h) (Or.inl ⟨by rfl, ?_⟩) (by assumption) ?_
  rotate_left
  · intro u hSu; have hSv := blkCell hSu; clear hSu; go_simp; (try with_reducible rfl)
  try simp only [Act.put, List.setIfInBounds_toArray, List.set_cons_zero, List.set_cons_succ]
  refine wpAnyH_take (i := 12) (oi := { dst := some 19, op := _, type := _, pos := _, after := _, guard := _ }) (v := ?_) rfl (by kernel_rfl) (by kernel_rfl) (by kernel_rfl) (fun _ _ _ h => h) (Or.inl ⟨by rfl, ?_⟩) (by assumption) ?_
  rotate_left
  · intro u hSu; have hSv := blkCell hSu; clear hSu; go_simp; (try with_reducible rfl)
  try simp only [Act.put, List.setIfInBounds_toArray, List.set_cons_zero, List.set_cons_succ]
  refine wpAnyH_take (i := 13) (oi := { dst := some 5, op := _, type := _, pos := _, after := _, guard := _ }) (v := ?_) rfl (by kernel_rfl) (by kernel_rfl) (by kernel_rfl) (fun _ _ _ h => h) (Or.inl ⟨by rfl, ?_⟩) (by assumption) ?_
  rotate_left
  · intro u hSu; have hSv := blkCell hSu; clear hSu; go_simp; (try with_reducible rfl)
  try simp only [Act.put, List.setIfInBounds_toArray, List.set_cons_zero, List.set_cons_succ]
  refine wpAnyH_take (i := 14) (oi := { dst := some 6, op := _, type := _, pos := _, after := _, guard := _ }) (v := ?_) rfl (by kernel_rfl) (by kernel_rfl) (by kernel_rfl) (fun _ _ _ h => h) (Or.inl ⟨by rfl, ?_⟩) (by assumption) ?_
  rotate_left
  · intro u hSu; have hSv := blkCell hSu; clear hSu; go_simp; (try with_reducible rfl)
  try simp only [Act.put, List.setIfInBounds_toArray, List.set_cons_zero, List.set_cons_succ]
  refine wpAnyH_done (by kernel_rfl) ?_ _
  clear hHeld hSn
  have hc := blkCell X0
  have hz := blkFrozen X0
  go_wp2_with fail
  go_ret
  have hs := blkSet 2 X0 (.bool true)
  refine ⟨rfl, ?_, ?_⟩
  · exact hs
  · refine ⟨rfl, rfl, rfl, ?_, fun j hj hne => ?_⟩
    · simp [World.setCell]
    · exact Below.heap_setCell _ _ _ _ hne
/-- A number of the reader. -/
theorem inum_any (b : Nat) (s : ByteArray) (x : Rc.St) (k : Nat) (h1 : 1 ≤ k) (h6 : k ≤ 6) (hm : s.size ≤ 1000000000) (ha : x.at_ ≤ 2000000000) (w : World) (hb : w.heap[b]? = some (.cells (iC s x.at_ x.bad) 132 (0, 0))) :
    Calls Try.prog 73 #[.pointer (some ⟨b, 0, none⟩), .int .i64 (k : Int)] w (INumOut s (Rc.numM false s.data.toList x k) b w) := by
  obtain ⟨a, bad⟩ := x
  have hl : s.data.toList.length = s.size := by simp
  by_cases hin : a + k ≤ s.size
  · have hN : Rc.numM false s.data.toList ⟨a, bad⟩ k = (((Oct.getN s.data.toList a k : Nat) : Int), (⟨a + k, bad⟩ : Rc.St)) := by unfold Rc.numM; rw [if_pos (by show a + k ≤ _; omega)]
    rw [hN]
    exact inum_yes b s a bad k h1 h6 hm hin _ rfl w hb
  · have hN : Rc.numM false s.data.toList ⟨a, bad⟩ k = (0, (⟨a, true⟩ : Rc.St)) := by unfold Rc.numM; rw [if_neg (by show ¬ a + k ≤ _; omega)]; rfl
    rw [hN]
    exact inum_no b s a bad k h1 h6 hm ha hin w hb
end Go.Proofs.Ytojaagnfjenhoaa
/- The walks over the reference of records: its reader's texts. -/
namespace Go.Proofs.Ytojaagnfjenhoaa
open Go.RowKit
set_option maxRecDepth 100000 in
theorem rgettext_yes (s : ByteArray) (a n : Nat) (hm : s.size ≤ 1000000000) (hn : Oct.getN s.data.toList a 2 = n) (hin : a + 2 + n ≤ s.size) (w : World) :
    Calls Try.prog 108 #[.string s, .int .i64 (a : Int)] w fun e w' => e = .returned (.tuple #[.string (s.extract (a + 2) (a + 2 + n)), .int .i64 ((a + 2 + n : Nat) : Int), .bool true]) ∧ w = w' := by
      have hpow := getN_small s.data.toList a 2
      have HG := Lib.hid (fun W => rget_yes s a 2 (by omega) (by omega) (by omega) (by omega) W)
      rw [hn] at hpow HG
      have hn2 : n < 65536 := by simpa using hpow
      rw [show Oct.intOf n = (n : Int) from by unfold Oct.intOf; rw [if_pos (by omega)]] at HG
      clear hpow hn
      have HT := Lib.hid (fun W => show Calls Try.prog 71 #[.string s, .int .i64 ((a : Int) + 2), .int .i64 (n : Int)] W _ from by (have h := there_yes s.size s (a + 2) n rfl hin (by omega) W); rw [show ((a + 2 : Nat) : Int) = (a : Int) + 2 by omega] at h; exact h)
      have w3 : IntKind.i64.wrap ((a : Int) + 2) = (a : Int) + 2 := IntWalk.i64_in _ (by omega)
      have w4 : IntKind.i64.wrap ((a : Int) + 2 + (n : Int)) = (a : Int) + 2 + (n : Int) := IntWalk.i64_in _ (by omega)
      have g1 : (0 : Int) ≤ (a : Int) + 2 := by omega
      have g2 : (a : Int) + 2 ≤ (a : Int) + 2 + (n : Int) := by omega
      have g3 : (a : Int) + 2 + (n : Int) ≤ (s.size : Int) := by omega
      have n1 : ((a : Int) + 2).toNat = a + 2 := by omega
      have n2 : ((a : Int) + 2 + (n : Int)).toNat = a + 2 + n := by omega
      go_enter Try.func108, Try.ntmps108
      go_wp2_with (first | (go_at_call 40; refine (HG.out _).mono ?_; rintro e w1 ⟨rfl, rfl⟩) | (go_at_call 71; (with_reducible refine (HT.out _).mono ?_); rintro e w1 ⟨rfl, rfl⟩))
      refine bodyPost_ret (v := .tuple #[.string (s.extract (a + 2) (a + 2 + n)), .int .i64 ((a + 2 + n : Nat) : Int), .bool true]) (by simp [results, Try.results108, go_sem]) rfl ⟨rfl, rfl⟩
set_option maxRecDepth 100000 in
theorem rgettext_no (s : ByteArray) (a : Nat) (hm : s.size ≤ 1000000000) (ha : a ≤ 2000000000) (hin : ¬ a + 2 + Oct.getN s.data.toList a 2 ≤ s.size) (w : World) :
    Calls Try.prog 108 #[.string s, .int .i64 (a : Int)] w fun e w' => e = .returned (.tuple #[.string ⟨#[]⟩, .int .i64 0, .bool false]) ∧ w = w' := by
  by_cases h2 : a + 2 ≤ s.size
  · have hpow := getN_small s.data.toList a 2
    have HG := Lib.hid (fun W => rget_yes s a 2 (by omega) (by omega) h2 (by omega) W)
    generalize Oct.getN s.data.toList a 2 = n at hpow HG hin
    have hn2 : n < 65536 := by simpa using hpow
    rw [show Oct.intOf n = (n : Int) from by unfold Oct.intOf; rw [if_pos (by omega)]] at HG
    clear hpow
    have HT := Lib.hid (fun W => show Calls Try.prog 71 #[.string s, .int .i64 ((a : Int) + 2), .int .i64 (n : Int)] W _ from by (have h := there_no s (a + 2) n hin (by omega) (by omega) W); rw [show ((a + 2 : Nat) : Int) = (a : Int) + 2 by omega] at h; exact h)
    have w3 : IntKind.i64.wrap ((a : Int) + 2) = (a : Int) + 2 := IntWalk.i64_in _ (by omega)
    go_enter Try.func108, Try.ntmps108
    go_wp2_with (first | (go_at_call 40; refine (HG.out _).mono ?_; rintro e w1 ⟨rfl, rfl⟩) | (go_at_call 71; (with_reducible refine (HT.out _).mono ?_); rintro e w1 ⟨rfl, rfl⟩))
    refine bodyPost_ret (v := .tuple #[.string ⟨#[]⟩, .int .i64 0, .bool false]) (by simp [results, Try.results108, go_sem]) rfl ⟨rfl, rfl⟩
  · have HG := Lib.hid (fun W => rget_no s a 2 (by omega) (by omega) h2 (by omega) (by omega) W)
    go_enter Try.func108, Try.ntmps108
    go_wp2_with (go_at_call 40; refine (HG.out _).mono ?_; rintro e w1 ⟨rfl, rfl⟩)
    refine bodyPost_ret (v := .tuple #[.string ⟨#[]⟩, .int .i64 0, .bool false]) (by simp [results, Try.results108, go_sem]) rfl ⟨rfl, rfl⟩
def ITextOut (s : ByteArray) (y : ByteArray × Rc.St) (b : Nat) (w : World) (e : Ending) (w' : World) : Prop :=
  e = .returned (.string y.1) ∧ w'.heap[b]? = some (.cells (iC s y.2.at_ y.2.bad) 132 (0, 0)) ∧ KeptB w.heap.size b w w'
set_option maxRecDepth 100000 in
set_option maxHeartbeats 2000000 in
theorem itext_yes (b : Nat) (s : ByteArray) (a : Nat) (bad : Bool) (hm : s.size ≤ 1000000000) (n : Nat) (hn : Oct.getN s.data.toList a 2 = n) (hin : a + 2 + n ≤ s.size) (w : World) (hb : w.heap[b]? = some (.cells (iC s a bad) 132 (0, 0))) :
    Calls Try.prog 101 #[.pointer (some ⟨b, 0, none⟩)] w (ITextOut s (s.extract (a + 2) (a + 2 + n), ⟨a + 2 + n, bad⟩) b w) := by
  have HG := Lib.hid (fun W => rgettext_yes s a n hm hn hin W)
  have HX := Lib.hid hb
  clear hb
  go_enter Try.func101, Try.ntmps101
  go_upto_region 1 with fail
  have X0 := blkOld HX.out (Below.refl _ w).drew
  refine wp_region_held_drew (S := (fun u => u.heap[b]? = some (.cells (iC s a bad) 132 (0, 0)))) (by kernel_rfl) ?_ (fun hHeld => ?_)
  · first | exact hSn | exact X0
  refine wpAnyH_take (i := 0) (oi := { dst := some 7, op := _, type := _, pos := _, after := _, guard := _ }) (v := ?_) rfl (by kernel_rfl) (by kernel_rfl) (by kernel_rfl) (fun _ _ _ h => h) (Or.inl ⟨by rfl, ?_⟩) (by assumption) ?_
  rotate_left
  · intro u hSu; have hSv := blkCell hSu; clear hSu; go_simp; (try with_reducible rfl)
  try simp only [Act.put, List.setIfInBounds_toArray, List.set_cons_zero, List.set_cons_succ]
  refine wpAnyH_take (i := 1) (oi := { dst := some 8, op := _, type := _, pos := _, after := _, guard := _ }) (v := ?_) rfl (by kernel_rfl) (by kernel_rfl) (by kernel_rfl) (fun _ _ _ h => h) (Or.inl ⟨by rfl, ?_⟩) (by assumption) ?_
  rotate_left
  · intro u hSu; have hSv := blkCell hSu; clear hSu; go_simp; (try with_reducible rfl)
  try simp only [Act.put, List.setIfInBounds_toArray, List.set_cons_zero, List.set_cons_succ]
  refine wpAnyH_take (i := 2) (oi := { dst := some 9, op := _, type := _, pos := _, after := _, guard := _ }) (v := ?_) rfl (by kernel_rfl) (by kernel_rfl) (by kernel_rfl) (fun _ _ _ h => h) (Or.inl ⟨by rfl, ?_⟩) (by assumption) ?_
  rotate_left
  · intro u hSu; have hSv := blkCell hSu; clear hSu; go_simp; (try with_reducible rfl)
  try simp only [Act.put, List.setIfInBounds_toArray, List.set_cons_zero, List.set_cons_succ]
  refine wpAnyH_take (i := 3) (oi := { dst := some 10, op := _, type := _, pos := _, after := _, guard := _ }) (v := ?_) rfl (by kernel_rfl) (by kernel_rfl) (by kernel_rfl) (fun _ _ _ h => h) (Or.inl ⟨by rfl, ?_⟩) (by assumption) ?_
  rotate_left
  · intro u hSu; have hSv := blkCell hSu; clear hSu; go_simp; (try with_reducible rfl)
  try simp only [Act.put, List.setIfInBounds_toArray, List.set_cons_zero, List.set_cons_succ]
  refine wpAnyH_take (i := 4) (oi := { dst := some 11, op := _, type := _, pos := _, after := _, guard := _ }) (v := ?_) rfl (by kernel_rfl) (by kernel_rfl) (by kernel_rfl) (fun _ _ _ h => h) (Or.inl ⟨by rfl, ?_⟩) (by assumption) ?_
  rotate_left
  · intro u hSu; have hSv := blkCell hSu; clear hSu; go_simp; (try with_reducible rfl)
  try simp only [Act.put, List.setIfInBounds_toArray, List.set_cons_zero, List.set_cons_succ]
  refine wpAnyH_take (i := 5) (oi := { dst := some 12, op := _, type := _, pos := _, after := _, guard := _ }) (v := ?_) rfl (by kernel_rfl) (by kernel_rfl) (by kernel_rfl) (fun _ _ _ h => h) (Or.inl ⟨by rfl, ?_⟩) (by assumption) ?_
  rotate_left
  · intro u hSu; have hSv := blkCell hSu; clear hSu; go_simp; (try with_reducible rfl)
  try simp only [Act.put, List.setIfInBounds_toArray, List.set_cons_zero, List.set_cons_succ]
  refine wpAnyH_take (i := 6) (oi := { dst := some 13, op := _, type := _, pos := _, after := _, guard := _ }) (v := ?_) rfl (by kernel_rfl) (by kernel_rfl) (by kernel_rfl) (fun _ _ _ h => h) (Or.inl ⟨by rfl, ?_⟩) (by assumption) ?_
  rotate_left
  · intro u hSu; have hSv := blkCell hSu; clear hSu; go_simp; (try with_reducible rfl)
  try simp only [Act.put, List.setIfInBounds_toArray, List.set_cons_zero, List.set_cons_succ]
  refine wpAnyH_take (i := 7) (oi := { dst := some 14, op := _, type := _, pos := _, after := _, guard := _ }) (v := ?_) rfl (by kernel_rfl) (by kernel_rfl) (by kernel_rfl) (fun _ _ _ h => h) (Or.inl ⟨by rfl, ?_⟩) (by assumption) ?_
  rotate_left
  · intro u hSu; have hSv := blkCell hSu; clear hSu; go_simp; (try with_reducible rfl)
  try simp only [Act.put, List.setIfInBounds_toArray, List.set_cons_zero, List.set_cons_succ]
  refine wpAnyH_ready (rs := [8]) (by kernel_rfl) (by simp) ?_
  refine AllReadyH.cons (o := { dst := some 15, op := _, type := _, pos := _, after := _, guard := _ }) rfl (fun K hK => ?_) ?_
  rotate_left
  · exact AllReadyH.nil
  go_simp
  refine (HG.out _).mono ?_; rintro e w1 ⟨rfl, rfl⟩; have hSn := X0
  refine hK.out _ _ ?_ (fun hHeld => ?_)
  · first | exact hSn | exact X0
  clear hK K
  try simp only [Act.put, List.setIfInBounds_toArray, List.set_cons_zero, List.set_cons_succ]
  refine wpAnyH_take (i := 9) (oi := { dst := some 6, op := _, type := _, pos := _, after := _, guard := _ }) (v := ?_) rfl (by kernel_rfl) (by kernel_rfl) (by kernel_rfl) (fun _ _ _ h => h) (Or.inl ⟨by rfl, ?_⟩) (by assumption) ?_
  rotate_left
  · intro u hSu; have hSv := blkCell hSu; clear hSu; go_simp; (try with_reducible rfl)
  try simp only [Act.put, List.setIfInBounds_toArray, List.set_cons_zero, List.set_cons_succ]
  refine wpAnyH_take (i := 10) (oi := { dst := some 16, op := _, type := _, pos := _, after := _, guard := _ }) (v := ?_) rfl (by kernel_rfl) (by kernel_rfl) (by kernel_rfl) (fun _ _ _ h => h) (Or.inl ⟨by rfl, ?_⟩) (by assumption) ?_
  rotate_left
  · intro u hSu; have hSv := blkCell hSu; clear hSu; go_simp; (try with_reducible rfl)
  try simp only [Act.put, List.setIfInBounds_toArray, List.set_cons_zero, List.set_cons_succ]
  refine wpAnyH_take (i := 11) (oi := { dst := some 17, op := _, type := _, pos := _, after := _, guard := _ }) (v := ?_) rfl (by kernel_rfl) (by kernel_rfl) (by kernel_rfl) (fun _ _ _ h => h) (Or.inl ⟨by rfl, ?_⟩) (by assumption) ?_
  rotate_left
  · intro u hSu; have hSv := blkCell hSu; clear hSu; go_simp; (try with_reducible rfl)
  try simp only [Act.put, List.setIfInBounds_toArray, List.set_cons_zero, List.set_cons_succ]
  refine wpAnyH_take (i := 12) (oi := { dst := some 18, op := _, type := _, pos := _, after := _, guard := _ }) (v := ?_) rfl (by kernel_rfl) (by kernel_rfl) (by kernel_rfl) (fun _ _ _ h => h) (Or.inl ⟨by rfl, ?_⟩) (by assumption) ?_
  rotate_left
  · intro u hSu; have hSv := blkCell hSu; clear hSu; go_simp; (try with_reducible rfl)
  try simp only [Act.put, List.setIfInBounds_toArray, List.set_cons_zero, List.set_cons_succ]
  refine wpAnyH_take (i := 13) (oi := { dst := some 3, op := _, type := _, pos := _, after := _, guard := _ }) (v := ?_) rfl (by kernel_rfl) (by kernel_rfl) (by kernel_rfl) (fun _ _ _ h => h) (Or.inl ⟨by rfl, ?_⟩) (by assumption) ?_
  rotate_left
  · intro u hSu; have hSv := blkCell hSu; clear hSu; go_simp; (try with_reducible rfl)
  try simp only [Act.put, List.setIfInBounds_toArray, List.set_cons_zero, List.set_cons_succ]
  refine wpAnyH_take (i := 14) (oi := { dst := some 4, op := _, type := _, pos := _, after := _, guard := _ }) (v := ?_) rfl (by kernel_rfl) (by kernel_rfl) (by kernel_rfl) (fun _ _ _ h => h) (Or.inl ⟨by rfl, ?_⟩) (by assumption) ?_
  rotate_left
  · intro u hSu; have hSv := blkCell hSu; clear hSu; go_simp; (try with_reducible rfl)
  try simp only [Act.put, List.setIfInBounds_toArray, List.set_cons_zero, List.set_cons_succ]
  refine wpAnyH_take (i := 15) (oi := { dst := some 5, op := _, type := _, pos := _, after := _, guard := _ }) (v := ?_) rfl (by kernel_rfl) (by kernel_rfl) (by kernel_rfl) (fun _ _ _ h => h) (Or.inl ⟨by rfl, ?_⟩) (by assumption) ?_
  rotate_left
  · intro u hSu; have hSv := blkCell hSu; clear hSu; go_simp; (try with_reducible rfl)
  try simp only [Act.put, List.setIfInBounds_toArray, List.set_cons_zero, List.set_cons_succ]
  refine wpAnyH_done (by kernel_rfl) ?_ _
  clear hHeld hSn
  have hc := blkCell X0
  have hz := blkFrozen X0
  go_wp2_with fail
  go_ret
  have hs := blkSet 1 X0 (.int .i64 ((a + 2 + n : Nat) : Int))
  refine ⟨rfl, ?_, ?_⟩
  · exact hs
  · refine ⟨rfl, rfl, rfl, ?_, fun j hj hne => ?_⟩
    · simp [World.setCell]
    · exact Below.heap_setCell _ _ _ _ hne
set_option maxRecDepth 100000 in
set_option maxHeartbeats 2000000 in
theorem itext_no (b : Nat) (s : ByteArray) (a : Nat) (bad : Bool) (hm : s.size ≤ 1000000000) (ha : a ≤ 2000000000) (hin : ¬ a + 2 + Oct.getN s.data.toList a 2 ≤ s.size) (w : World) (hb : w.heap[b]? = some (.cells (iC s a bad) 132 (0, 0))) :
    Calls Try.prog 101 #[.pointer (some ⟨b, 0, none⟩)] w (ITextOut s (⟨#[]⟩, ⟨a, true⟩) b w) := by
  have HG := Lib.hid (fun W => rgettext_no s a hm ha hin W)
  have HX := Lib.hid hb
  clear hb
  go_enter Try.func101, Try.ntmps101
  go_upto_region 1 with fail
  have X0 := blkOld HX.out (Below.refl _ w).drew
  refine wp_region_held_drew (S := (fun u => u.heap[b]? = some (.cells (iC s a bad) 132 (0, 0)))) (by kernel_rfl) ?_ (fun hHeld => ?_)
  · first | exact hSn | exact X0
  refine wpAnyH_take (i := 0) (oi := { dst := some 7, op := _, type := _, pos := _, after := _, guard := _ }) (v := ?_) rfl (by kernel_rfl) (by kernel_rfl) (by kernel_rfl) (fun _ _ _ h => h) (Or.inl ⟨by rfl, ?_⟩) (by assumption) ?_
  rotate_left
  · intro u hSu; have hSv := blkCell hSu; clear hSu; go_simp; (try with_reducible rfl)
  try simp only [Act.put, List.setIfInBounds_toArray, List.set_cons_zero, List.set_cons_succ]
  refine wpAnyH_take (i := 1) (oi := { dst := some 8, op := _, type := _, pos := _, after := _, guard := _ }) (v := ?_) rfl (by kernel_rfl) (by kernel_rfl) (by kernel_rfl) (fun _ _ _ h => h) (Or.inl ⟨by rfl, ?_⟩) (by assumption) ?_
  rotate_left
  · intro u hSu; have hSv := blkCell hSu; clear hSu; go_simp; (try with_reducible rfl)
  try simp only [Act.put, List.setIfInBounds_toArray, List.set_cons_zero, List.set_cons_succ]
  refine wpAnyH_take (i := 2) (oi := { dst := some 9, op := _, type := _, pos := _, after := _, guard := _ }) (v := ?_) rfl (by kernel_rfl) (by kernel_rfl) (by kernel_rfl) (fun _ _ _ h => h) (Or.inl ⟨by rfl, ?_⟩) (by assumption) ?_
  rotate_left
  · intro u hSu; have hSv := blkCell hSu; clear hSu; go_simp; (try with_reducible rfl)
  try simp only [Act.put, List.setIfInBounds_toArray, List.set_cons_zero, List.set_cons_succ]
  refine wpAnyH_take (i := 3) (oi := { dst := some 10, op := _, type := _, pos := _, after := _, guard := _ }) (v := ?_) rfl (by kernel_rfl) (by kernel_rfl) (by kernel_rfl) (fun _ _ _ h => h) (Or.inl ⟨by rfl, ?_⟩) (by assumption) ?_
  rotate_left
  · intro u hSu; have hSv := blkCell hSu; clear hSu; go_simp; (try with_reducible rfl)
  try simp only [Act.put, List.setIfInBounds_toArray, List.set_cons_zero, List.set_cons_succ]
  refine wpAnyH_take (i := 4) (oi := { dst := some 11, op := _, type := _, pos := _, after := _, guard := _ }) (v := ?_) rfl (by kernel_rfl) (by kernel_rfl) (by kernel_rfl) (fun _ _ _ h => h) (Or.inl ⟨by rfl, ?_⟩) (by assumption) ?_
  rotate_left
  · intro u hSu; have hSv := blkCell hSu; clear hSu; go_simp; (try with_reducible rfl)
  try simp only [Act.put, List.setIfInBounds_toArray, List.set_cons_zero, List.set_cons_succ]
  refine wpAnyH_take (i := 5) (oi := { dst := some 12, op := _, type := _, pos := _, after := _, guard := _ }) (v := ?_) rfl (by kernel_rfl) (by kernel_rfl) (by kernel_rfl) (fun _ _ _ h => h) (Or.inl ⟨by rfl, ?_⟩) (by assumption) ?_
  rotate_left
  · intro u hSu; have hSv := blkCell hSu; clear hSu; go_simp; (try with_reducible rfl)
  try simp only [Act.put, List.setIfInBounds_toArray, List.set_cons_zero, List.set_cons_succ]
  refine wpAnyH_take (i := 6) (oi := { dst := some 13, op := _, type := _, pos := _, after := _, guard := _ }) (v := ?_) rfl (by kernel_rfl) (by kernel_rfl) (by kernel_rfl) (fun _ _ _ h => h) (Or.inl ⟨by rfl, ?_⟩) (by assumption) ?_
  rotate_left
  · intro u hSu; have hSv := blkCell hSu; clear hSu; go_simp; (try with_reducible rfl)
  try simp only [Act.put, List.setIfInBounds_toArray, List.set_cons_zero, List.set_cons_succ]
  refine wpAnyH_take (i := 7) (oi := { dst := some 14, op := _, type := _, pos := _, after := _, guard := _ }) (v := ?_) rfl (by kernel_rfl) (by kernel_rfl) (by kernel_rfl) (fun _ _ _ h => h) (Or.inl ⟨by rfl, ?_⟩) (by assumption) ?_
  rotate_left
  · intro u hSu; have hSv := blkCell hSu; clear hSu; go_simp; (try with_reducible rfl)
  try simp only [Act.put, List.setIfInBounds_toArray, List.set_cons_zero, List.set_cons_succ]
  refine wpAnyH_ready (rs := [8]) (by kernel_rfl) (by simp) ?_
  refine AllReadyH.cons (o := { dst := some 15, op := _, type := _, pos := _, after := _, guard := _ }) rfl (fun K hK => ?_) ?_
  rotate_left
  · exact AllReadyH.nil
  go_simp
  refine (HG.out _).mono ?_; rintro e w1 ⟨rfl, rfl⟩; have hSn := X0
  refine hK.out _ _ ?_ (fun hHeld => ?_)
  · first | exact hSn | exact X0
  clear hK K
  try simp only [Act.put, List.setIfInBounds_toArray, List.set_cons_zero, List.set_cons_succ]
  refine wpAnyH_take (i := 9) (oi := { dst := some 6, op := _, type := _, pos := _, after := _, guard := _ }) (v := ?_) rfl (by kernel_rfl) (by kernel_rfl) (by kernel_rfl) (fun _ _ _ h => h) (Or.inl ⟨by rfl, ?_⟩) (by assumption) ?_
  rotate_left
  · intro u hSu; have hSv := blkCell hSu; clear hSu; go_simp; (try with_reducible rfl)
  try simp only [Act.put, List.setIfInBounds_toArray, List.set_cons_zero, List.set_cons_succ]
  refine wpAnyH_take (i := 10) (oi := { dst := some 16, op := _, type := _, pos := _, after := _, guard := _ }) (v := ?_) rfl (by kernel_rfl) (by kernel_rfl) (by kernel_rfl) (fun _ _ _ h => h) (Or.inl ⟨by rfl, ?_⟩) (by assumption) ?_
  rotate_left
  · intro u hSu; have hSv := blkCell hSu; clear hSu; go_simp; (try with_reducible rfl)
  try simp only [Act.put, List.setIfInBounds_toArray, List.set_cons_zero, List.set_cons_succ]
  refine wpAnyH_take (i := 11) (oi := { dst := some 17, op := _, type := _, pos := _, after := _, guard := _ }) (v := ?_) rfl (by kernel_rfl) (by kernel_rfl) (by kernel_rfl) (fun _ _ _ h => h) (Or.inl ⟨by rfl, ?_⟩) (by assumption) ?_
  rotate_left
  · intro u hSu; have hSv := blkCell hSu; clear hSu; go_simp; (try with_reducible rfl)
  try simp only [Act.put, List.setIfInBounds_toArray, List.set_cons_zero, List.set_cons_succ]
  refine wpAnyH_take (i := 12) (oi := { dst := some 18, op := _, type := _, pos := _, after := _, guard := _ }) (v := ?_) rfl (by kernel_rfl) (by kernel_rfl) (by kernel_rfl) (fun _ _ _ h => h) (Or.inl ⟨by rfl, ?_⟩) (by assumption) ?_
  rotate_left
  · intro u hSu; have hSv := blkCell hSu; clear hSu; go_simp; (try with_reducible rfl)
  try simp only [Act.put, List.setIfInBounds_toArray, List.set_cons_zero, List.set_cons_succ]
  refine wpAnyH_take (i := 13) (oi := { dst := some 3, op := _, type := _, pos := _, after := _, guard := _ }) (v := ?_) rfl (by kernel_rfl) (by kernel_rfl) (by kernel_rfl) (fun _ _ _ h => h) (Or.inl ⟨by rfl, ?_⟩) (by assumption) ?_
  rotate_left
  · intro u hSu; have hSv := blkCell hSu; clear hSu; go_simp; (try with_reducible rfl)
  try simp only [Act.put, List.setIfInBounds_toArray, List.set_cons_zero, List.set_cons_succ]
  refine wpAnyH_take (i := 14) (oi := { dst := some 4, op := _, type := _, pos := _, after := _, guard := _ }) (v := ?_) rfl (by kernel_rfl) (by kernel_rfl) (by kernel_rfl) (fun _ _ _ h => h) (Or.inl ⟨by rfl, ?_⟩) (by assumption) ?_
  rotate_left
  · intro u hSu; have hSv := blkCell hSu; clear hSu; go_simp; (try with_reducible rfl)
  try simp only [Act.put, List.setIfInBounds_toArray, List.set_cons_zero, List.set_cons_succ]
  refine wpAnyH_take (i := 15) (oi := { dst := some 5, op := _, type := _, pos := _, after := _, guard := _ }) (v := ?_) rfl (by kernel_rfl) (by kernel_rfl) (by kernel_rfl) (fun _ _ _ h => h) (Or.inl ⟨by rfl, ?_⟩) (by assumption) ?_
  rotate_left
  · intro u hSu; have hSv := blkCell hSu; clear hSu; go_simp; (try with_reducible rfl)
  try simp only [Act.put, List.setIfInBounds_toArray, List.set_cons_zero, List.set_cons_succ]
  refine wpAnyH_done (by kernel_rfl) ?_ _
  clear hHeld hSn
  have hc := blkCell X0
  have hz := blkFrozen X0
  go_wp2_with fail
  go_ret
  have hs := blkSet 2 X0 (.bool true)
  refine ⟨rfl, ?_, ?_⟩
  · exact hs
  · refine ⟨rfl, rfl, rfl, ?_, fun j hj hne => ?_⟩
    · simp [World.setCell]
    · exact Below.heap_setCell _ _ _ _ hne
/-- A text of the reader. -/
theorem itext_any (b : Nat) (s : ByteArray) (x : Rc.St) (hm : s.size ≤ 1000000000) (ha : x.at_ ≤ 2000000000) (w : World) (hb : w.heap[b]? = some (.cells (iC s x.at_ x.bad) 132 (0, 0))) :
    Calls Try.prog 101 #[.pointer (some ⟨b, 0, none⟩)] w (ITextOut s (Rc.textM s.data.toList x) b w) := by
  obtain ⟨a, bad⟩ := x
  have hl : s.data.toList.length = s.size := by simp
  by_cases hin : a + 2 + Oct.getN s.data.toList a 2 ≤ s.size
  · have hN : Rc.textM s.data.toList ⟨a, bad⟩ = (s.extract (a + 2) (a + 2 + Oct.getN s.data.toList a 2), (⟨a + 2 + Oct.getN s.data.toList a 2, bad⟩ : Rc.St)) := by
      unfold Rc.textM
      rw [if_pos (by show a + 2 + Oct.getN s.data.toList a 2 ≤ _; omega)]
      congr 1
      apply ByteArray.ext
      rw [ByteArray.data_extract]
      apply Array.toList_inj.1
      rw [Array.toList_extract, List.extract_eq_drop_take']
      simp only
      rw [List.drop_take]
      congr 1
      omega
    rw [hN]
    exact itext_yes b s a bad hm _ rfl hin w hb
  · have hN : Rc.textM s.data.toList ⟨a, bad⟩ = (⟨#[]⟩, (⟨a, true⟩ : Rc.St)) := by unfold Rc.textM; rw [if_neg (by show ¬ a + 2 + Oct.getN s.data.toList a 2 ≤ _; omega)]
    rw [hN]
    exact itext_no b s a bad hm ha hin w hb
end Go.Proofs.Ytojaagnfjenhoaa
/- The walks over the reference of records: its reader's changes. -/
namespace Rc
theorem numM_f {l : List UInt8} {st st' : St} {k : Nat} {n : Int} (h : numM false l st k = (n, st')) (ha : st.at_ ≤ l.length) : st'.at_ ≤ l.length := by
  unfold numM at h
  split at h
  · injection h with _ h; rw [← h]; assumption
  · injection h with _ h; rw [← h]; exact ha
theorem textM_f {l : List UInt8} {st st' : St} {t : ByteArray} (h : textM l st = (t, st')) (ha : st.at_ ≤ l.length) : st'.at_ ≤ l.length := by
  unfold textM at h
  split at h
  · injection h with _ h; rw [← h]; assumption
  · injection h with _ h; rw [← h]; exact ha
end Rc
namespace Go.Proofs.Ytojaagnfjenhoaa
open Go.RowKit
theorem KeptB.step {B b : Nat} {w u v : World} (h : KeptB B b w u) (_hB : B ≤ u.heap.size) (hb : Below B u v) : KeptB B b w v :=
  h.trans ⟨hb.os, hb.tape, hb.output, hb.size, fun k hk _ => hb.block k hk⟩
/-- The reader's box, and the boxes of the call, each at its place. -/
structure Ri (w : World) (b : Nat) (s : ByteArray) (st : Rc.St) (l : List (Nat × Array Value × TypeId)) (u : World) : Prop where
  rd : u.heap[b]? = some (.cells (iC s st.at_ st.bad) 132 (0, 0))
  bw : b < w.heap.size
  kept : KeptB w.heap.size b w u
  box : ∀ (i : Nat) (p : Nat × Array Value × TypeId), l[i]? = some p → u.heap[p.1]? = some (.cells p.2.1 p.2.2 (0, 0)) ∧ w.heap.size ≤ p.1
  dis : ∀ (i j : Nat) (p q : Nat × Array Value × TypeId), l[i]? = some p → l[j]? = some q → i ≠ j → p.1 ≠ q.1
section
variable {w u v : World} {b : Nat} {s : ByteArray} {st st' : Rc.St} {l : List (Nat × Array Value × TypeId)}
theorem Ri.start (hb : w.heap[b]? = some (.cells (iC s st.at_ st.bad) 132 (0, 0))) : Ri w b s st [] w :=
  ⟨hb, heapLt hb, KeptB.refl _ _ _, fun i p h => by simp at h, fun i j p q h => by simp at h⟩
theorem Ri.get0 {g : Nat} {cs : Array Value} {T : TypeId} (h : Ri w b s st ((g, cs, T) :: l) u) : u.heap[g]? = some (.cells cs T (0, 0)) := (h.box 0 _ rfl).1
theorem Ri.get1 {g : Nat} {cs : Array Value} {T : TypeId} {p : Nat × Array Value × TypeId} (h : Ri w b s st (p :: (g, cs, T) :: l) u) : u.heap[g]? = some (.cells cs T (0, 0)) := (h.box 1 _ rfl).1
theorem Ri.turn (h : Ri w b s st l u) (hr : v.heap[b]? = some (.cells (iC s st'.at_ st'.bad) 132 (0, 0))) (hk : KeptB u.heap.size b u v) : Ri w b s st' l v := by
  refine ⟨hr, h.bw, h.kept.trans ⟨hk.os, hk.tape, hk.output, hk.size, fun k h1 h2 => hk.block k (Nat.lt_of_lt_of_le h1 h.kept.size) h2⟩, fun i p hp => ?_, h.dis⟩
  obtain ⟨h1, h2⟩ := h.box i p hp
  have := h.bw
  exact ⟨(hk.block _ (heapLt h1) (by omega)).trans h1, h2⟩
theorem Ri.step (h : Ri w b s st l u) (hb : Below u.heap.size u v) : Ri w b s st l v :=
  h.turn (blkOld h.rd hb) ⟨hb.os, hb.tape, hb.output, hb.size, fun k hk _ => hb.block k hk⟩
theorem Ri.alloc (h : Ri w b s st l u) (cs : Array Value) (T : TypeId) : Ri w b s st (l ++ [(u.heap.size, cs, T)]) (u.alloc (.cells cs T)) := by
  have h1 := h.step (allocB u (.cells cs T))
  have hs := h.kept.size
  have old : ∀ (i : Nat) (p : Nat × Array Value × TypeId), (l ++ [(u.heap.size, cs, T)])[i]? = some p → (l[i]? = some p ∧ p.1 < u.heap.size) ∨ (i = l.length ∧ p = (u.heap.size, cs, T)) := fun i p hp => by
    by_cases hi : i < l.length
    · rw [List.getElem?_append_left hi] at hp
      exact .inl ⟨hp, heapLt (h.box i p hp).1⟩
    · rw [List.getElem?_append_right (by omega)] at hp
      have h0 : i - l.length = 0 := by
        have := (List.getElem?_eq_some_iff.1 hp).1
        simpa using this
      rw [h0] at hp
      simp only [List.getElem?_cons_zero, Option.some.injEq] at hp
      exact .inr ⟨by omega, hp.symm⟩
  refine ⟨h1.rd, h1.bw, h1.kept, fun i p hp => ?_, fun i j p q hp hq hij => ?_⟩
  · rcases old i p hp with ⟨h2, _⟩ | ⟨_, rfl⟩
    · exact h1.box i p h2
    · exact ⟨heap_alloc_new u _, hs⟩
  · rcases old i p hp with ⟨h2, h3⟩ | ⟨h2, rfl⟩
    · rcases old j q hq with ⟨h4, h5⟩ | ⟨h4, rfl⟩
      · exact h.dis i j p q h2 h4 hij
      · show p.1 ≠ u.heap.size; omega
    · rcases old j q hq with ⟨h4, h5⟩ | ⟨h4, rfl⟩
      · show u.heap.size ≠ q.1; omega
      · omega
theorem Ri.row (h : Ri w b s st l u) (i : Nat) (cs : Array Value) (p : Nat × Array Value × TypeId) (hi : l[i]? = some p) : Ri w b s st (l.set i (p.1, cs, p.2.2)) (u.setRow p.1 cs) := by
  have hil := (List.getElem?_eq_some_iff.1 hi).1
  obtain ⟨h1, h2⟩ := h.box i p hi
  have hbw := h.bw
  have hs := h.kept.size
  have hB : Below w.heap.size u (u.setRow p.1 cs) := ⟨rfl, rfl, rfl, by show _ ≤ (u.heap.modify _ _).size; simp, fun k hk => heap_setRow_other _ _ _ _ (by omega)⟩
  refine ⟨(heap_setRow_other _ _ _ _ (by omega)).trans h.rd, hbw, h.kept.step hs hB, fun j q hq => ?_, fun j k q r hq hr hjk => ?_⟩
  · by_cases hij : i = j
    · subst hij
      rw [List.getElem?_set_self hil] at hq
      injection hq with hq
      subst hq
      exact ⟨setRow_heap _ _ _ _ _ _ h1, h2⟩
    · rw [List.getElem?_set_ne hij] at hq
      obtain ⟨h3, h4⟩ := h.box j q hq
      exact ⟨(heap_setRow_other _ _ _ _ (h.dis j i q p hq hi (fun e => hij e.symm))).trans h3, h4⟩
  · have same : ∀ (j : Nat) (q : Nat × Array Value × TypeId), (l.set i (p.1, cs, p.2.2))[j]? = some q → ∃ q', l[j]? = some q' ∧ q'.1 = q.1 := fun j q hq => by
      by_cases hij : i = j
      · subst hij
        rw [List.getElem?_set_self hil] at hq
        injection hq with hq
        exact ⟨p, hi, by rw [← hq]⟩
      · rw [List.getElem?_set_ne hij] at hq
        exact ⟨q, hq, rfl⟩
    obtain ⟨q', hq1, hq2⟩ := same j q hq
    obtain ⟨r', hr1, hr2⟩ := same k r hr
    rw [← hq2, ← hr2]
    exact h.dis j k q' r' hq1 hr1 hjk
theorem Ri.set (h : Ri w b s st l u) (i j : Nat) (x : Value) (p : Nat × Array Value × TypeId) (hi : l[i]? = some p) : Ri w b s st (l.set i (p.1, p.2.1.setIfInBounds j x, p.2.2)) (u.setCell ⟨p.1, j, none⟩ x) := by
  rw [setCell_eq_setRow u p.1 j _ _ _ x (h.box i p hi).1]
  exact h.row i _ p hi
theorem Ri.num {n : Int} (h : Ri w b s st l u) (k : Nat) (h1 : 1 ≤ k) (h6 : k ≤ 6) (hn : Rc.numM false s.data.toList st k = (n, st')) (hm : s.size ≤ 1000000) (ha : st.at_ ≤ s.size) :
    Calls Try.prog 73 #[.pointer (some ⟨b, 0, none⟩), .int .i64 (k : Int)] u fun e v => e = .returned (.int .i64 n) ∧ Ri w b s st' l v := by
  refine (inum_any b s st k h1 h6 (by omega) (by omega) u h.rd).mono ?_
  rintro e v ⟨rfl, h2, h3⟩
  rw [hn] at h2 ⊢
  exact ⟨rfl, h.turn h2 h3⟩
theorem Ri.num1 {n : Int} (h : Ri w b s st l u) (hn : Rc.numM false s.data.toList st 1 = (n, st')) (hm : s.size ≤ 1000000) (ha : st.at_ ≤ s.size) :
    Calls Try.prog 73 #[.pointer (some ⟨b, 0, none⟩), .int .i64 1] u fun e v => e = .returned (.int .i64 n) ∧ Ri w b s st' l v := h.num 1 (by omega) (by omega) hn hm ha
theorem Ri.num2 {n : Int} (h : Ri w b s st l u) (hn : Rc.numM false s.data.toList st 2 = (n, st')) (hm : s.size ≤ 1000000) (ha : st.at_ ≤ s.size) :
    Calls Try.prog 73 #[.pointer (some ⟨b, 0, none⟩), .int .i64 2] u fun e v => e = .returned (.int .i64 n) ∧ Ri w b s st' l v := h.num 2 (by omega) (by omega) hn hm ha
theorem Ri.num3 {n : Int} (h : Ri w b s st l u) (hn : Rc.numM false s.data.toList st 3 = (n, st')) (hm : s.size ≤ 1000000) (ha : st.at_ ≤ s.size) :
    Calls Try.prog 73 #[.pointer (some ⟨b, 0, none⟩), .int .i64 3] u fun e v => e = .returned (.int .i64 n) ∧ Ri w b s st' l v := h.num 3 (by omega) (by omega) hn hm ha
theorem Ri.num6 {n : Int} (h : Ri w b s st l u) (hn : Rc.numM false s.data.toList st 6 = (n, st')) (hm : s.size ≤ 1000000) (ha : st.at_ ≤ s.size) :
    Calls Try.prog 73 #[.pointer (some ⟨b, 0, none⟩), .int .i64 6] u fun e v => e = .returned (.int .i64 n) ∧ Ri w b s st' l v := h.num 6 (by omega) (by omega) hn hm ha
theorem Ri.text {t : ByteArray} (h : Ri w b s st l u) (hn : Rc.textM s.data.toList st = (t, st')) (hm : s.size ≤ 1000000) (ha : st.at_ ≤ s.size) :
    Calls Try.prog 101 #[.pointer (some ⟨b, 0, none⟩)] u fun e v => e = .returned (.string t) ∧ Ri w b s st' l v := by
  refine (itext_any b s st (by omega) (by omega) u h.rd).mono ?_
  rintro e v ⟨rfl, h2, h3⟩
  rw [hn] at h2 ⊢
  exact ⟨rfl, h.turn h2 h3⟩
end
def IOpOut (s : ByteArray) (y : Rc.Op × Rc.St) (b : Nat) (w : World) (e : Ending) (w' : World) : Prop :=
  e = .returned (opV y.1) ∧ w'.heap[b]? = some (.cells (iC s y.2.at_ y.2.bad) 132 (0, 0)) ∧ KeptB w.heap.size b w w'
set_option maxRecDepth 100000 in
set_option maxHeartbeats 4000000 in
theorem iop_any (b : Nat) (s : ByteArray) (x : Rc.St) (hm : s.size ≤ 1000000) (ha : x.at_ ≤ s.size) (w : World) (hb : w.heap[b]? = some (.cells (iC s x.at_ x.bad) 132 (0, 0))) :
    Calls Try.prog 75 #[.pointer (some ⟨b, 0, none⟩)] w (IOpOut s (Rc.opM false s.data.toList x) b w) := by
  have hl : s.data.toList.length = s.size := by simp
  rcases h0 : Rc.numM false s.data.toList x 1 with ⟨k, s1⟩
  have a1 := Rc.numM_f h0 (by omega)
  rcases h1 : Rc.numM false s.data.toList s1 2 with ⟨sl, s2⟩
  have a2 := Rc.numM_f h1 a1
  rcases h2 : Rc.textM s.data.toList s2 with ⟨oo, s3⟩
  have a3 := Rc.textM_f h2 a2
  rcases h3 : Rc.textM s.data.toList s3 with ⟨on, s4⟩
  have e0 : Rc.opM false s.data.toList x = (⟨k, sl, oo, on⟩, s4) := by unfold Rc.opM; simp only [h0, h1, h2, h3]
  rw [e0]
  have C0 := Lib.hid (fun l u (hu : Ri w b s x l u) => hu.num1 h0 hm ha)
  have C1 := Lib.hid (fun l u (hu : Ri w b s s1 l u) => hu.num2 h1 hm (by omega))
  have C2 := Lib.hid (fun l u (hu : Ri w b s s2 l u) => hu.text h2 hm (by omega))
  have C3 := Lib.hid (fun l u (hu : Ri w b s s3 l u) => hu.text h3 hm (by omega))
  have H0 := Lib.hid ((Ri.start hb).alloc #[.int .i64 0, .int .i64 0, .string ⟨#[]⟩, .string ⟨#[]⟩] 41)
  clear h0 h1 h2 h3 a1 a2 a3 e0 hb
  go_enter Try.func75, Try.ntmps75
  go_upto_region 1 with fail
  obtain ⟨gr, hgr⟩ : ∃ g, g = w.heap.size := ⟨_, rfl⟩
  obtain ⟨W0, hW0⟩ : ∃ W, W = w.alloc (.cells #[.int .i64 0, .int .i64 0, .string ⟨#[]⟩, .string ⟨#[]⟩] 41) := ⟨_, rfl⟩
  rw [← hgr, ← hW0] at H0
  rw [← hgr, ← hW0]
  clear hgr hW0
  go_upto_region 2 with (first
    | (go_at_call 73; (with_reducible refine (C0.out _ _ H0.out).mono ?_); rintro e v1 ⟨rfl, h⟩; have H1 := Lib.hid h; clear h)
    | (go_at_call 73; (with_reducible refine (C1.out _ _ H1.out).mono ?_); rintro e v2 ⟨rfl, h⟩; have H2 := Lib.hid h; clear h)
    | (with_reducible refine wpList_store_new rfl 41 (.tmp 3) (.tmp 8) rfl #[.int .i64 k, .int .i64 sl, .string ⟨#[]⟩, .string ⟨#[]⟩] _ _ rfl (by kernel_rfl) (by kernel_rfl) (by kernel_rfl) (by kernel_rfl) ?_))
  have H3 := Lib.hid (H2.out.alloc #[.int .i64 k, .int .i64 sl, .string ⟨#[]⟩, .string ⟨#[]⟩] 41)
  obtain ⟨gx, hgx⟩ : ∃ g, g = v2.heap.size := ⟨_, rfl⟩
  obtain ⟨W3, hW3⟩ : ∃ W, W = v2.alloc (.cells #[.int .i64 k, .int .i64 sl, .string ⟨#[]⟩, .string ⟨#[]⟩] 41) := ⟨_, rfl⟩
  rw [← hgx, ← hW3] at H3
  rw [← hgx, ← hW3]
  clear hgx hW3 H0 H1 H2 C0 C1
  go_upto_region 3 with (go_at_call 101; (with_reducible refine (C2.out _ _ H3.out).mono ?_); rintro e v4 ⟨rfl, h⟩; have H4 := Lib.hid h; have hc4 := blkCell h.get1; have hz4 := blkFrozen h.get1; clear h)
  have H5 := Lib.hid (show Ri w b s s3 [(gr, #[.int .i64 0, .int .i64 0, .string ⟨#[]⟩, .string ⟨#[]⟩], 41), (gx, #[.int .i64 k, .int .i64 sl, .string oo, .string ⟨#[]⟩], 41)] (v4.setCell ⟨gx, 2, none⟩ (.string oo)) from by have h := H4.out.set 1 2 (.string oo) _ rfl; simpa using h)
  obtain ⟨W5, hW5⟩ : ∃ W, W = v4.setCell ⟨gx, 2, none⟩ (.string oo) := ⟨_, rfl⟩
  rw [← hW5] at H5
  rw [← hW5]
  clear hW5 H3 H4 hc4 hz4 C2
  go_upto_region 4 with (go_at_call 101; (with_reducible refine (C3.out _ _ H5.out).mono ?_); rintro e v6 ⟨rfl, h⟩; have H6 := Lib.hid h; have hc6 := blkCell h.get1; have hz6 := blkFrozen h.get1; clear h)
  have H7 := Lib.hid (show Ri w b s s4 [(gr, #[.int .i64 0, .int .i64 0, .string ⟨#[]⟩, .string ⟨#[]⟩], 41), (gx, #[.int .i64 k, .int .i64 sl, .string oo, .string on], 41)] (v6.setCell ⟨gx, 3, none⟩ (.string on)) from by have h := H6.out.set 1 3 (.string on) _ rfl; simpa using h)
  obtain ⟨W7, hW7⟩ : ∃ W, W = v6.setCell ⟨gx, 3, none⟩ (.string on) := ⟨_, rfl⟩
  rw [← hW7] at H7
  rw [← hW7]
  clear hW7 H5 H6 hc6 hz6 C3
  go_wp2_with (first
    | (with_reducible refine listLoad (by kernel_rfl) 41 (.tmp 3) rfl gx rfl #[.int .i64 k, .int .i64 sl, .string oo, .string on] _ H7.out.get1 _ Try.underlying41 (by kernel_rfl) (by kernel_rfl) ?_)
    | (with_reducible refine listStore (by kernel_rfl) 41 (.tmp 2) (.tmp 15) rfl gr #[.int .i64 k, .int .i64 sl, .string oo, .string on] _ _ rfl rfl H7.out.get0 (by kernel_rfl) (by kernel_rfl) (by kernel_rfl) ?_))
  refine bodyPost_ret (v := .agg #[.int .i64 k, .int .i64 sl, .string oo, .string on]) (results_cell rfl _ _ rfl (load_whole (setRow_heap _ _ _ _ _ _ H7.out.get0) Try.underlying41 (by kernel_rfl) (by kernel_rfl))) rfl ?_
  have h8 := H7.out.row 0 #[.int .i64 k, .int .i64 sl, .string oo, .string on] _ rfl
  exact ⟨rfl, h8.rd, h8.kept⟩
end Go.Proofs.Ytojaagnfjenhoaa
