import Derived.Test.YtmebkghdkeeobaaGreatDoorHo00
import Derived.Test.YtmebkghdkeeobaaGreatDoorHo22
set_option maxRecDepth 100000
set_option maxHeartbeats 16000000
set_option linter.unusedSimpArgs false
namespace Go.Proofs.YtmebkghdkeeobaaGreatDoor
open Go.RowKit Sc
theorem one_size : (⟨#[1]⟩ : ByteArray).size = 1 := rfl
theorem zeros_size (m : Nat) : (⟨(List.replicate m 0).toArray⟩ : ByteArray).size = m := by
  show (List.replicate m (0 : UInt8)).toArray.size = m
  rw [List.size_toArray, List.length_replicate]
theorem fresh_add (m : Nat) : (⟨#[1]⟩ : ByteArray) ++ ⟨(List.replicate (m - 1) 0).toArray⟩ = freshB m := by
  apply bytes_eq
  rw [ByteArray.data_append, Array.toList_append]
  rfl
set_option maxRecDepth 100000 in
set_option maxHeartbeats 16000000 in
theorem sformat_any {N n k : Nat} {ids : List Int} {c : Int} (s : Tx.St) (p : SP) (fs : List Fr) (C : Nat → ByteArray) (hS : SS N n k ids c s fs C) (hc : c + 2524 ≤ (N : Int) * 128) (t : Int) (ht : t ∈ ids) (htn : Rc.num t) (w : World) (h : PoolR w s p fs) :
    Calls Tryz.prog 21 #[storeV s p, .int .i64 t] w (TuOut N n k ids (c + 2524) C 0 1 0 [freshB ((n + 7) / 8)] w) := by
  have hn := hS.pi.n1
  have HZ := Lib.hid hS.pi.zp
  have hm1 : 1 ≤ (n + 7) / 8 := by omega
  have hm2 : (n + 7) / 8 ≤ 8 := by omega
  have HLN := Lib.hid (fun W => slong_any s p n hS.pi.zp (by omega) W)
  have hfs := fresh_size hm1
  have hpf := put_fresh (r := freshB ((n + 7) / 8)) (by omega) (by omega)
  have HNW := Lib.hid (fun W => new_any 1 W)
  have HPT := Lib.hid (fun W => show Calls Tryz.prog 41 #[.string (newB 1), .int .i64 0, .string (freshB ((n + 7) / 8))] W fun e w' => e = .returned (outV (pageB ⟨0, 1, 0, [freshB ((n + 7) / 8)]⟩, 0)) ∧ Below W.heap.size W w' from by
    have h9 := pput_any (newB (1 : Nat)) 0 (freshB ((n + 7) / 8)) (by rw [(new_nrm 1 (by omega)).1.size]; omega) W
    rw [hpf.1] at h9
    exact h9)
  have HAL := Lib.hid (fun W (hb : Below w.heap.size w W) => show Calls Tryz.prog 44 #[storeV s p, .int .i64 t, .int .i64 0, .string (pageB ⟨0, 1, 0, [freshB ((n + 7) / 8)]⟩)] W (TuOut N n k ids (c + 2524) C 0 1 0 [freshB ((n + 7) / 8)] W) from by
    have h9 := sall_any s p fs C hS hc t ht htn 0 (by omega) (pageB ⟨0, 1, 0, [freshB ((n + 7) / 8)]⟩) hpf.2.1 (by rw [hpf.2.2]) W (h.below hb)
    rw [hpf.2.2] at h9
    exact h9)
  have HQ := Lib.hid (fun (s' : Tx.St) (q : SP) (fs' : List Fr) (C' : Nat → ByteArray) w' h1 h2 h3 h4 => show TuOut N n k ids (c + 2524) C 0 1 0 [freshB ((n + 7) / 8)] w (.returned (.tuple #[storeV s' q, .int .i64 0])) w' from ⟨s', q, fs', C', rfl, h1, h2, h3, h4⟩)
  have HAE := Lib.hid (fun W e w' (hh : TuOut N n k ids (c + 2524) C 0 1 0 [freshB ((n + 7) / 8)] W e w') => show ∃ (s' : Tx.St) (q : SP) (fs' : List Fr) (C' : Nat → ByteArray), e = .returned (.tuple #[storeV s' q, .int .i64 0]) ∧ PoolR w' s' q fs' ∧ SS N n k ids (c + 2524) s' fs' C' ∧ Turn C C' 0 1 0 [freshB ((n + 7) / 8)] ∧ Below W.heap.size W w' from hh)
  generalize hTQ : TuOut N n k ids (c + 2524) C 0 1 0 [freshB ((n + 7) / 8)] w = Q at HQ ⊢
  have hl1 : ¬ (n : Int) < 1 := by omega
  have hl2 : ¬ (2000 : Int) < (n : Int) := by omega
  have hmk : ∀ W : World, (Instr.makeSlice 67 (.int .i64 (((n + 7) / 8 - 1 : Nat) : Int)) (.int .i64 (((n + 7) / 8 - 1 : Nat) : Int))).run Tryz.prog W = .ok (.slice (some ⟨W.heap.size, 0, none⟩) ((n + 7) / 8 - 1) ((n + 7) / 8 - 1)) (W.alloc (.cells (madeCells #[Value.int .u8 0] ((n + 7) / 8 - 1)) 5)) := fun W => pmake_zeros ((n + 7) / 8 - 1) (by omega) W
  have hcv := pzeros_back ((n + 7) / 8 - 1)
  have hadd : ∀ W : World, (Op.stringOp .add ⟨#[1]⟩ ⟨(List.replicate ((n + 7) / 8 - 1) 0).toArray⟩).run Tryz.prog W = .ok (.string (freshB ((n + 7) / 8))) W := fun W => by
    rw [← fresh_add]
    exact run_string_add_sum W _ _ (by rw [one_size, zeros_size]; omega)
  have hsb : (((n + 7) / 8 : Nat) : Int) - 1 = (((n + 7) / 8 - 1 : Nat) : Int) := by omega
  have hsw : IntKind.i64.wrap ((((n + 7) / 8 : Nat) : Int) - 1) = (((n + 7) / 8 - 1 : Nat) : Int) := by rw [hsb]; exact IntWalk.i64_in _ (by omega)
  generalize freshB ((n + 7) / 8) = fb at HPT HAL HQ hadd HAE
  generalize pageB ⟨0, 1, 0, [fb]⟩ = pb at HPT HAL
  generalize hm0 : (n + 7) / 8 = m at hmk hcv hadd hsw HLN
  generalize m - 1 = m1 at hmk hcv hadd hsw
  generalize (⟨(List.replicate m1 0).toArray⟩ : ByteArray) = zz at hcv hadd
  clear h hS hn hc ht htn hpf hfs hm1 hm2 hm0 hsb hTQ
  go_enter Tryz.func21, Tryz.ntmps21
  go_upto_region 1 with fail
  have H0 := Lib.hid (show BxL w.heap.size w [((stA s p), 36), (#[.int .i64 0, .int .i64 0, .int .i64 0, .slice none 0 0, .int .i64 0, .bool false, .int .i64 0, .int .i64 0, .int .i64 0, .int .i64 0, .string ⟨#[]⟩, .slice none 0 0, .int .i64 0, .slice none 0 0, .int .i64 0], 36)] ((w.alloc (.cells (stA s p) 36)).alloc (.cells #[.int .i64 0, .int .i64 0, .int .i64 0, .slice none 0 0, .int .i64 0, .bool false, .int .i64 0, .int .i64 0, .int .i64 0, .int .i64 0, .string ⟨#[]⟩, .slice none 0 0, .int .i64 0, .slice none 0 0, .int .i64 0] 36)) from (((BxL.nil (Below.refl w.heap.size w)).new (by simp) (stA s p) 36).new (by simp) #[.int .i64 0, .int .i64 0, .int .i64 0, .slice none 0 0, .int .i64 0, .bool false, .int .i64 0, .int .i64 0, .int .i64 0, .int .i64 0, .string ⟨#[]⟩, .slice none 0 0, .int .i64 0, .slice none 0 0, .int .i64 0] 36))
  obtain ⟨W0, hW0⟩ : ∃ W, W = ((w.alloc (.cells (stA s p) 36)).alloc (.cells #[.int .i64 0, .int .i64 0, .int .i64 0, .slice none 0 0, .int .i64 0, .bool false, .int .i64 0, .int .i64 0, .int .i64 0, .int .i64 0, .string ⟨#[]⟩, .slice none 0 0, .int .i64 0, .slice none 0 0, .int .i64 0] 36)) := ⟨_, rfl⟩
  rw [← hW0] at H0 ⊢
  clear hW0
  have hc1 := show W0.cell? ⟨w.heap.size, 1, none⟩ = some (.int .i64 (n : Int)) from by rw [blkCell H0.out.get0, ← HZ.out]; rfl
  go_upto_region 3 with fail
  clear hc1 hl1 hl2
  go_cut [6, 7] (fun x y wc => x = .string pb ∧ y = .int .i64 0 ∧ Below W0.heap.size W0 wc)
  case first =>
    have HS8 := Lib.hid (fun (u : World) (hu : Below W0.heap.size W0 u) => show u.heap[w.heap.size]? = some (.cells (stA s p) 36 (0, 0)) from blkOld H0.out.get0 hu)
    have hQ : Below W0.heap.size W0 W0.drew := (Below.refl _ W0).drew
    have hSn := HS8.out _ hQ
    refine wp_region_held_drew (S := (fun u => u.heap[w.heap.size]? = some (.cells (stA s p) 36 (0, 0)))) (by kernel_rfl) ?_ (fun hHeld => ?_)
    · exact hSn
    generalize W0.drew = w8 at hSn hQ ⊢
    refine tkV 1 (some 22) (v := .agg (stA s p)) rfl (yieldsIf_load_mid (by rfl) 36 (.tmp 2) rfl w.heap.size 0 (by rfl) (stA s p).toList _ (fun u hu => (by intro j v hj; rw [Nat.zero_add, blkCell hu]; simpa using hj)) Tryz.underlying36 (by kernel_rfl) (by kernel_rfl)) ?_
    try simp only [Act.put, List.setIfInBounds_toArray, List.set_cons_zero, List.set_cons_succ]
    refine rdH 0 (some 21) rfl (fun K hK => ?_)
    go_simp
    (refine (HNW.out _).mono ?_); rintro e w9 ⟨rfl, hb9⟩; have hQ2 := joinB hQ hb9; clear hQ hSn hb9; have hQ := hQ2; clear hQ2; have hSn := HS8.out _ hQ
    refine hK.out _ _ ?_ (fun hHeld => ?_)
    · exact hSn
    clear hK K
    try simp only [Act.put, List.setIfInBounds_toArray, List.set_cons_zero, List.set_cons_succ]
    refine rdH 2 (some 23) rfl (fun K hK => ?_)
    go_simp
    (refine (HLN.out _).mono ?_); rintro e w9 ⟨rfl, hb9⟩; have hQ2 := joinB hQ hb9; clear hQ hSn hb9; have hQ := hQ2; clear hQ2; have hSn := HS8.out _ hQ
    refine hK.out _ _ ?_ (fun hHeld => ?_)
    · exact hSn
    clear hK K
    try simp only [Act.put, List.setIfInBounds_toArray, List.set_cons_zero, List.set_cons_succ]
    refine tkW 3 (some 24) (v := ?_) rfl ?_ ?_
    rotate_left
    · intro u hSu; clear hSu; go_simp; (try with_reducible rfl)
    try simp only [Act.put, List.setIfInBounds_toArray, List.set_cons_zero, List.set_cons_succ]
    refine rdH 4 (some 25) rfl (fun K hK => ?_)
    go_simp
    have hb9 := allocB w9 (.cells (madeCells #[Value.int .u8 0] m1) 5); have hQ2 := joinB hQ hb9; clear hQ hSn hb9; have hQ := hQ2; clear hQ2; have hSn := HS8.out _ hQ
    refine hK.out _ _ ?_ (fun hHeld => ?_)
    · exact hSn
    clear hK K
    try simp only [Act.put, List.setIfInBounds_toArray, List.set_cons_zero, List.set_cons_succ]
    refine rdH 5 (some 26) rfl (fun K hK => ?_)
    go_simp
    refine hK.out _ _ ?_ (fun hHeld => ?_)
    · exact hSn
    clear hK K
    try simp only [Act.put, List.setIfInBounds_toArray, List.set_cons_zero, List.set_cons_succ]
    refine tkW 6 (some 27) (v := ?_) rfl ?_ ?_
    rotate_left
    · intro u hSu; clear hSu; go_simp; (try with_reducible rfl)
    try simp only [Act.put, List.setIfInBounds_toArray, List.set_cons_zero, List.set_cons_succ]
    refine rdH 7 (some 28) rfl (fun K hK => ?_)
    go_simp
    (refine (HPT.out _).mono ?_); rintro e w9 ⟨rfl, hb9⟩; have hQ2 := joinB hQ hb9; clear hQ hSn hb9; have hQ := hQ2; clear hQ2; have hSn := HS8.out _ hQ
    refine hK.out _ _ ?_ (fun hHeld => ?_)
    · exact hSn
    clear hK K
    try simp only [Act.put, List.setIfInBounds_toArray, List.set_cons_zero, List.set_cons_succ]
    refine tkW 8 (some 20) (v := ?_) rfl ?_ ?_
    rotate_left
    · intro u hSu; clear hSu; go_simp; (try with_reducible rfl)
    try simp only [Act.put, List.setIfInBounds_toArray, List.set_cons_zero, List.set_cons_succ]
    refine tkW 9 (some 29) (v := ?_) rfl ?_ ?_
    rotate_left
    · intro u hSu; clear hSu; go_simp; (try with_reducible rfl)
    try simp only [Act.put, List.setIfInBounds_toArray, List.set_cons_zero, List.set_cons_succ]
    refine tkW 10 (some 30) (v := ?_) rfl ?_ ?_
    rotate_left
    · intro u hSu; clear hSu; go_simp; (try with_reducible rfl)
    try simp only [Act.put, List.setIfInBounds_toArray, List.set_cons_zero, List.set_cons_succ]
    refine tkW 11 (some 6) (v := ?_) rfl ?_ ?_
    rotate_left
    · intro u hSu; clear hSu; go_simp; (try with_reducible rfl)
    try simp only [Act.put, List.setIfInBounds_toArray, List.set_cons_zero, List.set_cons_succ]
    refine tkW 12 (some 7) (v := ?_) rfl ?_ ?_
    rotate_left
    · intro u hSu; clear hSu; go_simp; (try with_reducible rfl)
    try simp only [Act.put, List.setIfInBounds_toArray, List.set_cons_zero, List.set_cons_succ]
    refine wpAnyH_done (by kernel_rfl) ?_ _
    clear hHeld
    go_wp2_with fail
    go_meet
    case rel => exact ⟨rfl, rfl, hQ⟩
  case rest =>
    obtain ⟨rfl, rfl, hb3⟩ := hcut
    obtain ⟨w3, rfl⟩ : ∃ wm : World, wm = wc := ⟨_, rfl⟩
    have H3 := Lib.hid (H0.out.step hb3)
    clear hb3 hmk hcv hadd hsw HLN HNW HPT H0
    go_upto_region 7 with (first
      | (with_reducible refine listLoad (by kernel_rfl) 36 (.tmp 2) rfl w.heap.size rfl (stA s p) _ H3.out.get0 _ Tryz.underlying36 (by kernel_rfl) (by kernel_rfl) ?_)
      | (go_at_call 44; (refine (HAL.out _ H3.out.below).mono ?_); intro e w4 hh; obtain ⟨s', q, fs', C', rfl, hp4, hi4, hk4, hb4⟩ := HAE.out _ _ _ hh; clear hh)
      | (with_reducible refine wpList_store_new rfl 36 (.tmp 8) (.tmp 40) rfl (stA s' q) _ _ rfl (by kernel_rfl) (by kernel_rfl) (by kernel_rfl) (by kernel_rfl) ?_))
    have hb5 := hb4.trans ((allocB w4 (.cells (stA s' q) 36)).mono hb4.size)
    have H5 := Lib.hid (H3.out.step hb5)
    have HG5 := Lib.hid (heap_alloc_new w4 (.cells (stA s' q) 36))
    have HP5 := Lib.hid (hp4.below (allocB w4 (.cells (stA s' q) 36)))
    obtain ⟨g, hg⟩ : ∃ g, g = w4.heap.size := ⟨_, rfl⟩
    obtain ⟨w5, hw5⟩ : ∃ W, W = w4.alloc (.cells (stA s' q) 36) := ⟨_, rfl⟩
    rw [← hg, ← hw5] at HG5
    rw [← hw5] at H5 HP5
    rw [← hw5, ← hg]
    clear hw5 hg hb4 hb5 H3 HAL hp4
    try simp only [Act.put]
    have HBK := Lib.hid (fun W => sback_any s p s' q 0 (by decide) W)
    go_wp2_with (first
      | (with_reducible refine listLoad (by kernel_rfl) 36 (.tmp 2) rfl w.heap.size rfl (stA s p) _ H5.out.get0 _ Tryz.underlying36 (by kernel_rfl) (by kernel_rfl) ?_)
      | (with_reducible refine listLoad (by kernel_rfl) 36 (.tmp 8) rfl g rfl (stA s' q) _ HG5.out _ Tryz.underlying36 (by kernel_rfl) (by kernel_rfl) ?_)
      | (go_at_call 32; (refine (HBK.out _).mono ?_); rintro e w6 ⟨he, hb6⟩; rw [if_pos rfl] at he; subst he; have H6 := Lib.hid (H5.out.step hb6))
      | (with_reducible refine listStore (by kernel_rfl) 36 (.tmp 4) (.tmp 45) rfl (w.heap.size + 1) (stA s' q) _ _ rfl rfl H6.out.get1 (by kernel_rfl) (by kernel_rfl) (by kernel_rfl) ?_))
    refine bodyPost_ret (v := .tuple #[.agg (stA s' q), .int .i64 0]) (results_cell2 rfl _ _ rfl (load_whole (setRow_heap _ _ _ _ _ _ H6.out.get1) Tryz.underlying36 (by kernel_rfl) (by kernel_rfl)) rfl) rfl ?_
    exact HQ.out s' q fs' C' _ ((HP5.out.below hb6).other (t := 36) H6.out.get1 (by decide) (by decide) (by decide) _) hi4 hk4 (H6.out.row 1 (stA s' q) _ rfl).below
end Go.Proofs.YtmebkghdkeeobaaGreatDoor
