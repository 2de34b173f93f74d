/- The walk over the statement CkptMasters. -/
import Derived.Test.YthfglhafphfhiaaGreatGc10
import Derived.BigRegion
namespace Go.Proofs.YthfglhafphfhiaaGreat
open Go.RowKit
set_option maxRecDepth 100000 in
set_option maxHeartbeats 8000000 in
theorem ckptmasters_any (d : Lg.Dk) (hlb : -9223372036854775808 ≤ d.left ∧ d.left ≤ 9223372036854775807) (hln : d.sectors.length ≤ 140737488355328) (A : Option Addr) (c : Nat) (n : Int) (w : World) (hr : Reads w A c d.sectors.length (d.sectors.flatMap strC)) :
    Calls Tryz.prog 4 #[diskV d A c, .int .i64 n] w fun e w' => e = .returned (.bool true) ∧ Below w.heap.size w w' := by
  have HAW := Lib.hid (fun W => cawake_any W)
  have HR := Lib.hid hr
  have HD := Lib.hid (fun (hs : d.sectors.length ≤ 100) W (hb : Below w.heap.size w W) => show DiskR W d A c from ⟨hr.below hb, by omega⟩)
  have HSE := Lib.hid (fun W hd => cset_any d hlb A c n W hd)
  have HRE := Lib.hid (fun W hd => rset_any d hlb A c n W hd)
  have HMD := Lib.hid (fun W hd => cmaster_any d A c W hd)
  have HRD := Lib.hid (fun W hd => rmaster_any d A c W hd)
  have hsm := @Ck.set_master d n
  have hylen : (Ck.setD d n).1.sectors.length = d.sectors.length := by
    unfold Ck.setD
    split
    · rfl
    · exact Lg.writeD_len
  generalize Ck.setD d n = y at HSE HRE hsm hylen
  generalize Ck.masterD d = M at HMD HRD
  obtain ⟨d', e'⟩ := y
  simp only at hsm hylen
  have HSM := Lib.hid hsm
  have HYL := Lib.hid hylen
  clear hr hlb hsm hylen
  obtain ⟨L, left, down⟩ := d
  dsimp only [diskV] at HD HSE HRE HMD HRD HR HYL hln ⊢
  go_enter Tryz.func4, Tryz.ntmps4
  go_upto_region 1 with fail
  have H0 := Lib.hid (show BxL w.heap.size w [(#[.slice A L.length c, .int .i64 left, .bool down], 29)] (w.alloc (.cells #[.slice A L.length c, .int .i64 left, .bool down] 29)) from ((BxL.nil (Below.refl w.heap.size w)).new (by simp) #[.slice A L.length c, .int .i64 left, .bool down] 29))
  obtain ⟨W0, hW0⟩ : ∃ W, W = (w.alloc (.cells #[.slice A L.length c, .int .i64 left, .bool down] 29)) := ⟨_, rfl⟩
  rw [← hW0] at H0 ⊢
  clear hW0
  have hc0 := blkCell H0.out.get0
  by_cases hl : 100 < (L.length : Int)
  · clear HSE HRE HMD HRD HSM HYL HD HR
    go_wp2_with (go_at_call 15; (with_reducible refine (HAW.out _).mono ?_); rintro e w2 ⟨rfl, hb2⟩)
    go_ret
    exact ⟨rfl, joinB H0.out.below hb2⟩
  by_cases hlf : left < -1
  · clear HSE HRE HMD HRD HSM HYL HD HR
    go_wp2_with (go_at_call 15; (with_reducible refine (HAW.out _).mono ?_); rintro e w2 ⟨rfl, hb2⟩)
    go_ret
    exact ⟨rfl, joinB H0.out.below hb2⟩
  go_upto_region 4 with fail
  clear hc0
  go_loopw [5] (fun i wr => ∃ k : Nat, i = .int .i64 (k : Int) ∧ k ≤ L.length ∧ BxL w.heap.size w [(#[.slice A L.length c, .int .i64 left, .bool down], 29)] wr) (fun i _ => L.length - (intOf i).toNat)
  case atStart => exact ⟨0, rfl, Nat.zero_le _, H0.out⟩
  case round =>
    obtain ⟨k, rfl, hk, hbx⟩ := hrel
    have HX := Lib.hid hbx
    have hc0 := blkCell hbx.get0
    clear hbx H0
    by_cases hlt : k < L.length
    · have hki : (k : Int) < (L.length : Int) := by omega
      have hk0 : (0 : Int) ≤ (k : Int) := by omega
      have hwk : IntKind.i64.wrap ((k : Int) + 1) = (k : Int) + 1 := IntWalk.i64_in _ (by omega)
      obtain ⟨b, off, rfl, hc, hbl, hcell⟩ := read_at strC_len (HR.out.below HX.out.below) hlt
      have q0 := hcell 0 _ rfl
      simp only [Nat.mul_one, Nat.add_zero] at q0
      clear hcell hc HSE HRE HMD HRD HSM HYL HD
      generalize L[k] = x at q0
      by_cases hx : (x.size : Int) = 128
      · have hx1 : ((x.size : Int) == 128) = true := by simpa using hx
        have hx2 : ((x.size : Int) != 128) = false := by simpa using hx
        clear hx
        go_wp2_with fail
        go_roundw
        case rel => exact ⟨k + 1, (by go_num), by omega, HX.out⟩
        case measure => simp [intOf]; omega
      · have hx1 : ((x.size : Int) == 128) = false := by simpa using hx
        have hx2 : ((x.size : Int) != 128) = true := by simpa using hx
        clear hx
        go_wp2_with (go_at_call 15; (with_reducible refine (HAW.out _).mono ?_); rintro e w2 ⟨rfl, hb2⟩)
        go_ret
        exact ⟨rfl, joinB HX.out.below hb2⟩
    · have hki : ¬ (k : Int) < (L.length : Int) := by omega
      have HD1 := Lib.hid (fun W hb => HD.out (by omega) W hb)
      have hL100 : L.length ≤ 100 := by omega
      have HL100 := Lib.hid hL100
      clear HD HR hL100 hk
      go_upto_region 8 with fail
      have HS1 := Lib.hid (HSE.out wr (HD1.out wr HX.out.below))
      clear hc0 HSE
      go_upto_region 9 with (first
        | (with_reducible refine listLoad (by kernel_rfl) 29 (.tmp 2) rfl w.heap.size rfl #[.slice A L.length c, .int .i64 left, .bool down] _ HX.out.get0 _ Tryz.underlying29 (by kernel_rfl) (by kernel_rfl) ?_)
        | (go_at_call 16; (with_reducible refine HS1.out.mono ?_); rintro e w1 ⟨A1, c1, he, hd1, -, hb1⟩; (try dsimp only [diskV] at he); subst he)
        | (with_reducible refine wpList_store_new rfl 29 (.tmp 6) (.tmp 40) rfl #[.slice A1 d'.sectors.length c1, .int .i64 d'.left, .bool d'.down] _ _ rfl (by kernel_rfl) (by kernel_rfl) (by kernel_rfl) (by kernel_rfl) ?_))
      have H1 := Lib.hid (HX.out.step (pastAlloc (o := .cells #[.slice A1 d'.sectors.length c1, .int .i64 d'.left, .bool d'.down] 29) hb1))
      have G1 := Lib.hid (heap_alloc_new w1 (.cells #[.slice A1 d'.sectors.length c1, .int .i64 d'.left, .bool d'.down] 29))
      have D1 := Lib.hid (hd1.below (allocB w1 (.cells #[.slice A1 d'.sectors.length c1, .int .i64 d'.left, .bool d'.down] 29)))
      obtain ⟨ga, hga⟩ : ∃ g, g = w1.heap.size := ⟨_, rfl⟩
      obtain ⟨W1, hW1⟩ : ∃ W, W = w1.alloc (.cells #[.slice A1 d'.sectors.length c1, .int .i64 d'.left, .bool d'.down] 29) := ⟨_, rfl⟩
      rw [← hga] at G1
      rw [← hW1] at H1 G1 D1
      rw [← hW1, ← hga]
      clear hga hW1 hb1 hd1 HX HS1
      have HS2 := Lib.hid (HRE.out W1 (HD1.out W1 H1.out.below))
      clear HRE
      go_upto_region 10 with (first
        | (with_reducible refine listLoad (by kernel_rfl) 29 (.tmp 2) rfl w.heap.size rfl #[.slice A L.length c, .int .i64 left, .bool down] _ H1.out.get0 _ Tryz.underlying29 (by kernel_rfl) (by kernel_rfl) ?_)
        | (go_at_call 17; (with_reducible refine HS2.out.mono ?_); rintro e w2 ⟨A2, c2, he, hd2, -, hb2⟩; (try dsimp only [diskV] at he); subst he)
        | (with_reducible refine wpList_store_new rfl 29 (.tmp 8) (.tmp 46) rfl #[.slice A2 d'.sectors.length c2, .int .i64 d'.left, .bool d'.down] _ _ rfl (by kernel_rfl) (by kernel_rfl) (by kernel_rfl) (by kernel_rfl) ?_))
      have H2 := Lib.hid (H1.out.step (pastAlloc (o := .cells #[.slice A2 d'.sectors.length c2, .int .i64 d'.left, .bool d'.down] 29) hb2))
      have G2 := Lib.hid (blkOld G1.out (pastAlloc (o := .cells #[.slice A2 d'.sectors.length c2, .int .i64 d'.left, .bool d'.down] 29) hb2))
      have D2 := Lib.hid (D1.out.below (pastAlloc (o := .cells #[.slice A2 d'.sectors.length c2, .int .i64 d'.left, .bool d'.down] 29) hb2))
      have I2 := Lib.hid (heap_alloc_new w2 (.cells #[.slice A2 d'.sectors.length c2, .int .i64 d'.left, .bool d'.down] 29))
      have E2 := Lib.hid (hd2.below (allocB w2 (.cells #[.slice A2 d'.sectors.length c2, .int .i64 d'.left, .bool d'.down] 29)))
      obtain ⟨gb, hgb⟩ : ∃ g, g = w2.heap.size := ⟨_, rfl⟩
      obtain ⟨W2, hW2⟩ : ∃ W, W = w2.alloc (.cells #[.slice A2 d'.sectors.length c2, .int .i64 d'.left, .bool d'.down] 29) := ⟨_, rfl⟩
      rw [← hgb] at I2
      rw [← hW2] at H2 G2 D2 I2 E2
      rw [← hW2, ← hgb]
      clear hgb hW2 hb2 hd2 H1 G1 D1 HS2
      have HSA := Lib.hid (show Calls Tryz.prog 12 #[.agg #[.int .i64 0, .int .i64 0, .int .i64 0, .slice A1 d'.sectors.length c1, .int .i64 d'.left, .bool d'.down, .int .i64 0, .int .i64 0, .int .i64 0, .int .i64 0, .string ⟨#[]⟩, .slice none 0 0, .int .i64 0, .slice none 0 0, .int .i64 0], .agg #[.int .i64 0, .int .i64 0, .int .i64 0, .slice A2 d'.sectors.length c2, .int .i64 d'.left, .bool d'.down, .int .i64 0, .int .i64 0, .int .i64 0, .int .i64 0, .string ⟨#[]⟩, .slice none 0 0, .int .i64 0, .slice none 0 0, .int .i64 0]] W2 (fun e w' => e = .returned (.bool true) ∧ Below W2.heap.size W2 w') from
        rsamed_any ⟨0, 0, 0, d', ⟨0, 0, 0, 0, ⟨#[]⟩⟩, 0, [], 0⟩ ⟨A1, c1, none, 0, 0, none, 0⟩ ⟨A2, c2, none, 0, 0, none, 0⟩ rfl rfl (by simp) (by show d'.sectors.length ≤ _; rw [HYL.out]; have := HL100.out; omega) W2 D2.out (Reads.none_ _ _ _ _) E2.out (Reads.none_ _ _ _ _))
      go_upto_region 11 with (first
        | (with_reducible refine listLoad (by kernel_rfl) 29 (.tmp 6) rfl ga rfl #[.slice A1 d'.sectors.length c1, .int .i64 d'.left, .bool d'.down] _ G2.out _ Tryz.underlying29 (by kernel_rfl) (by kernel_rfl) ?_)
        | (with_reducible refine listLoad (by kernel_rfl) 29 (.tmp 8) rfl gb rfl #[.slice A2 d'.sectors.length c2, .int .i64 d'.left, .bool d'.down] _ I2.out _ Tryz.underlying29 (by kernel_rfl) (by kernel_rfl) ?_)
        | (go_at_call 12; (with_reducible refine HSA.out.mono ?_); rintro e w3 ⟨rfl, hb3⟩))
      have H3 := Lib.hid (H2.out.step hb3)
      have G3 := Lib.hid (blkOld G2.out hb3)
      have D3 := Lib.hid (D2.out.below hb3)
      clear hb3 H2 G2 D2 I2 E2 HSA
      have Z0 := H3.out.drew
      have DZ := D3.out.below (Below.refl _ w3).drew
      have GZ := blkOld G3.out (Below.refl _ w3).drew
      have hee : (e' != e') = false := by simp
      have hMM : (M != M) = false := by simp
      refine wp_region_held_drew (S := (fun u => u.heap[w.heap.size]? = some (.cells #[.slice A L.length c, .int .i64 left, .bool down] 29 (0, 0)))) (by kernel_rfl) ?_ (fun hHeld => ?_)
      · first | exact hSn | exact Z0.get0
      refine tkW 0 (some 53) (v := ?_) rfl ?_ ?_
      rotate_left
      · intro u hSu; clear hSu; go_simp; (try with_reducible rfl)
      try simp only [Act.put, List.setIfInBounds_toArray, List.set_cons_zero, List.set_cons_succ]
      refine tkW 1 (some 54) (v := ?_) rfl ?_ ?_
      rotate_left
      · intro u hSu; clear hSu; go_simp; (try with_reducible rfl)
      try simp only [Act.put, List.setIfInBounds_toArray, List.set_cons_zero, List.set_cons_succ]
      refine tkW 2 (some 55) (v := ?_) rfl ?_ ?_
      rotate_left
      · intro u hSu; clear hSu; go_simp; (try with_reducible rfl)
      try simp only [Act.put, List.setIfInBounds_toArray, List.set_cons_zero, List.set_cons_succ]
      refine tkW 3 (some 56) (v := ?_) rfl ?_ ?_
      rotate_left
      · intro u hSu; clear hSu; go_simp; (try with_reducible rfl)
      try simp only [Act.put, List.setIfInBounds_toArray, List.set_cons_zero, List.set_cons_succ]
      refine tkW 4 (some 57) (v := ?_) rfl ?_ ?_
      rotate_left
      · intro u hSu; clear hSu; go_simp; (try with_reducible rfl)
      try simp only [Act.put, List.setIfInBounds_toArray, List.set_cons_zero, List.set_cons_succ]
      refine tkW 5 (some 58) (v := ?_) rfl ?_ ?_
      rotate_left
      · intro u hSu; clear hSu; go_simp; (try with_reducible rfl)
      try simp only [Act.put, List.setIfInBounds_toArray, List.set_cons_zero, List.set_cons_succ]
      refine tkW 6 (some 59) (v := ?_) rfl ?_ ?_
      rotate_left
      · intro u hSu; clear hSu; go_simp; (try with_reducible rfl)
      try simp only [Act.put, List.setIfInBounds_toArray, List.set_cons_zero, List.set_cons_succ]
      refine tkW 7 (some 60) (v := ?_) rfl ?_ ?_
      rotate_left
      · intro u hSu; clear hSu; go_simp; (try with_reducible rfl)
      try simp only [Act.put, List.setIfInBounds_toArray, List.set_cons_zero, List.set_cons_succ]
      refine tkV 8 (some 61) (v := .agg #[.slice A L.length c, .int .i64 left, .bool down]) rfl (yieldsIf_load_mid (by rfl) 29 (.tmp 2) rfl w.heap.size 0 (by rfl) #[.slice A L.length c, .int .i64 left, .bool down].toList _ (fun u hu => (by intro j v hj; rw [Nat.zero_add, blkCell hu]; simpa using hj)) Tryz.underlying29 (by kernel_rfl) (by kernel_rfl)) ?_
      try simp only [Act.put, List.setIfInBounds_toArray, List.set_cons_zero, List.set_cons_succ]
      refine tkV 10 (some 63) (v := .agg #[.slice A L.length c, .int .i64 left, .bool down]) rfl (yieldsIf_load_mid (by rfl) 29 (.tmp 2) rfl w.heap.size 0 (by rfl) #[.slice A L.length c, .int .i64 left, .bool down].toList _ (fun u hu => (by intro j v hj; rw [Nat.zero_add, blkCell hu]; simpa using hj)) Tryz.underlying29 (by kernel_rfl) (by kernel_rfl)) ?_
      try simp only [Act.put, List.setIfInBounds_toArray, List.set_cons_zero, List.set_cons_succ]
      refine rdH 9 (some 62) rfl (fun K hK => ?_)
      go_simp
      refine (HMD.out _ (HD1.out _ Z0.below)).mono ?_; rintro e w4 ⟨rfl, hb4⟩
      have Z1 := Z0.step hb4
      have hSn := Z1.get0
      refine hK.out _ _ ?_ (fun hHeld => ?_)
      · first | exact hSn | exact Z0.get0
      clear hK K
      try simp only [Act.put, List.setIfInBounds_toArray, List.set_cons_zero, List.set_cons_succ]
      refine rdH 11 (some 64) rfl (fun K hK => ?_)
      go_simp
      refine (HRD.out _ (HD1.out _ Z1.below)).mono ?_; rintro e w5 ⟨rfl, hb5⟩
      have Z2 := Z1.step hb5
      clear hSn
      have hSn := Z2.get0
      refine hK.out _ _ ?_ (fun hHeld => ?_)
      · first | exact hSn | exact Z0.get0
      clear hK K
      try simp only [Act.put, List.setIfInBounds_toArray, List.set_cons_zero, List.set_cons_succ]
      refine tkW 12 (some 65) (v := ?_) rfl ?_ ?_
      rotate_left
      · intro u hSu; clear hSu; go_simp; (try with_reducible rfl)
      try simp only [Act.put, List.setIfInBounds_toArray, List.set_cons_zero, List.set_cons_succ]
      refine tkW 13 (some 66) (v := ?_) rfl ?_ ?_
      rotate_left
      · intro u hSu; clear hSu; go_simp; (try with_reducible rfl)
      try simp only [Act.put, List.setIfInBounds_toArray, List.set_cons_zero, List.set_cons_succ]
      refine wpAnyH_done (by kernel_rfl) ?_ _
      clear hHeld hSn hee hMM HMD HRD HD1
      have G5 := Lib.hid (blkOld (blkOld GZ hb4) hb5)
      have D5 := Lib.hid ((DZ.below hb4).below hb5)
      have H5 := Lib.hid Z2
      clear Z0 Z1 Z2 DZ GZ hb4 hb5 H3 G3 D3
      by_cases he : e' = 0
      · obtain ⟨m1, m2⟩ := HSM.out he
        have HMA := Lib.hid (fun W (hd : DiskR W d' A1 c1) => show Calls Tryz.prog 18 #[.agg #[.slice A1 d'.sectors.length c1, .int .i64 d'.left, .bool d'.down]] W fun e w' => e = .returned (.int .i64 n) ∧ Below W.heap.size W w' from by
          have h9 := cmaster_any d' A1 c1 W hd
          rw [m1] at h9
          exact h9)
        have HMS := Lib.hid (fun W (hd : DiskR W (Lg.startD d') A1 c1) => show Calls Tryz.prog 18 #[diskV (Lg.startD d') A1 c1] W fun e w' => e = .returned (.int .i64 n) ∧ Below W.heap.size W w' from by
          have h9 := cmaster_any (Lg.startD d') A1 c1 W hd
          rw [m2] at h9
          exact h9)
        have HSR := Lib.hid (fun W => cstart_any d' A1 c1 W)
        have HDS := Lib.hid (fun W (h : DiskR W d' A1 c1) => show DiskR W (Lg.startD d') A1 c1 from ⟨h.secs, h.small⟩)
        have hnn : (n == n) = true := by simp
        have he0 : (0 : Int) = e' := he.symm
        subst he0
        clear HSM m1 m2 he
        dsimp only [diskV, Lg.startD] at HMS HSR
        go_wp2_with (first
          | (go_at_call 15; (with_reducible refine (HAW.out _).mono ?_); rintro e w6 ⟨rfl, hb6⟩; have G6 := Lib.hid (blkOld G5.out hb6); have D6 := Lib.hid (D5.out.below hb6); have B6 := Lib.hid (joinB H5.out.below hb6); clear hb6)
          | (go_at_call 18; (with_reducible refine (HMA.out _ D6.out).mono ?_); rintro e w7 ⟨rfl, hb7⟩; have G7 := Lib.hid (blkOld G6.out hb7); have D7 := Lib.hid (D6.out.below hb7); have B7 := Lib.hid (joinB B6.out hb7); clear hb7 D6 G6)
          | (with_reducible refine listLoad (by kernel_rfl) 29 (.tmp 6) rfl ga rfl #[.slice A1 d'.sectors.length c1, .int .i64 d'.left, .bool d'.down] _ G6.out _ Tryz.underlying29 (by kernel_rfl) (by kernel_rfl) ?_)
          | (with_reducible refine listLoad (by kernel_rfl) 29 (.tmp 6) rfl ga rfl #[.slice A1 d'.sectors.length c1, .int .i64 d'.left, .bool d'.down] _ G7.out _ Tryz.underlying29 (by kernel_rfl) (by kernel_rfl) ?_)
          | (go_at_call 20; (with_reducible refine (HSR.out _).mono ?_); rintro e w8 ⟨rfl, hb8⟩; have D8 := Lib.hid (HDS.out _ (D7.out.below hb8)); have B8 := Lib.hid (joinB B7.out hb8); clear hb8)
          | (go_at_call 18; (with_reducible refine (HMS.out _ D8.out).mono ?_); rintro e w9 ⟨rfl, hb9⟩; have B9 := Lib.hid (joinB B8.out hb9)))
        go_ret
        exact ⟨by simp, B9.out⟩
      · have he1 : (e' == 0) = false := by simpa using he
        have he2 : (e' != 0) = true := by simpa using he
        clear HSM he
        go_wp2_with (go_at_call 15; (with_reducible refine (HAW.out _).mono ?_); rintro e w6 ⟨rfl, hb6⟩)
        go_ret
        exact ⟨by simp, joinB H5.out.below hb6⟩
end Go.Proofs.YthfglhafphfhiaaGreat
