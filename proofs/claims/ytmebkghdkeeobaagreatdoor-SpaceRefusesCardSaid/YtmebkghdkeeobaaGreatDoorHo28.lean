import Derived.Test.YtmebkghdkeeobaaGreatDoorHo00
import Derived.Test.YtmebkghdkeeobaaGreatDoorHo25
import Derived.Test.YtmebkghdkeeobaaGreatDoorHo26
import Derived.Test.YtmebkghdkeeobaaGreatDoorHo27
import Derived.BigRegion
import Derived.BigQuiet
set_option maxRecDepth 100000
set_option maxHeartbeats 16000000
set_option linter.unusedSimpArgs false
namespace Go.Proofs.YtmebkghdkeeobaaGreatDoor
open Go.RowKit Sc
theorem made_at (z : Array Value) (n i : Nat) (hi : i < n) : (madeCells z n)[i]? = some (z[i % z.size]!) := by
  unfold madeCells
  rw [Array.getElem?_map, Array.getElem?_range, if_pos hi]; rfl
theorem made_free (k : Nat) : madeCells (Value.agg #[.int .i64 0, .string ⟨#[]⟩, .int .i64 0, .bool false, .int .i64 0]).cells (k * 5) = ((freeF k).flatMap frL).toArray := by
  have hk : ((freeF k).flatMap frL).length = k * 5 := by rw [flat_len frL_len, freeF_len]
  apply Array.ext_getElem?
  intro i
  have hR : ((freeF k).flatMap frL).toArray[i]? = ((freeF k).flatMap frL)[i]? := by simp
  rw [hR]
  by_cases hi : i < k * 5
  · have e1 : i = i / 5 * 5 + i % 5 := by omega
    have h5 : i / 5 < (freeF k).length := by rw [freeF_len]; omega
    have h6 := flat_at frL_len (freeF k) (i / 5) (i % 5) h5 (by omega)
    rw [← e1, freeF_at h5] at h6
    rw [made_at _ _ _ hi, h6]
    have hm : i % 5 = 0 ∨ i % 5 = 1 ∨ i % 5 = 2 ∨ i % 5 = 3 ∨ i % 5 = 4 := by omega
    show some (#[Value.int .i64 0, .string ⟨#[]⟩, .int .i64 0, .bool false, .int .i64 0][i % 5]!) = _
    rcases hm with h | h | h | h | h <;> rw [h] <;> rfl
  · rw [Array.getElem?_eq_none (by rw [size_madeCells]; omega), List.getElem?_eq_none (by omega)]
theorem make_free (k : Nat) (hk : k ≤ 64) (W : World) : (Instr.makeSlice 31 (.int .i64 (k : Int)) (.int .i64 (k : Int))).run Tryz.prog W = .ok (.slice (some ⟨W.heap.size, 0, none⟩) k k) (W.alloc (.cells ((freeF k).flatMap frL).toArray 80)) := by
  obtain ⟨i0, hi, hz0, hz1, hz2⟩ := info_parts info_fr
  have h := run_make (P := Tryz.prog) W 31 80 i0 (.agg #[.int .i64 0, .string ⟨#[]⟩, .int .i64 0, .bool false, .int .i64 0]) Tryz.underlying31 hi hz0 .i64 .i64 (k : Int) (k : Int) (by omega) (by omega) (by rw [hz2]; omega) (by omega)
  rw [hz1, Int.toNat_natCast, made_free] at h
  exact h
def PnOut (k : Nat) (w : World) (e : Ending) (w' : World) : Prop :=
  ∃ b, e = .returned (.tuple #[.agg #[.slice (some ⟨b, 0, none⟩) k k, .int .i64 0], .int .i64 0]) ∧ Reads w' (some ⟨b, 0, none⟩) k k ((freeF k).flatMap frL) ∧ NewT w.heap.size w' 80 (some ⟨b, 0, none⟩) ∧ Below w.heap.size w w'
set_option maxRecDepth 100000 in
set_option maxHeartbeats 8000000 in
theorem ppool_any (k : Nat) (hk : 1 ≤ k ∧ k ≤ 64) (w : World) :
    Calls Tryz.prog 23 #[.int .i64 (k : Int)] w (PnOut k w) := by
  have hmk := fun W => make_free k hk.2 W
  have hl1 : ¬ (k : Int) < 1 := by omega
  have hl2 : ¬ (64 : Int) < (k : Int) := by omega
  generalize hfr : ((freeF k).flatMap frL).toArray = fr at hmk
  have HFR := Lib.hid hfr
  clear hfr
  go_enter Tryz.func23, Tryz.ntmps23
  go_upto_region 1 with fail
  have H0 := Lib.hid (show BxL w.heap.size w [(#[.slice none 0 0, .int .i64 0], 33)] (w.alloc (.cells #[.slice none 0 0, .int .i64 0] 33)) from ((BxL.nil (Below.refl w.heap.size w)).new (by simp) #[.slice none 0 0, .int .i64 0] 33))
  obtain ⟨W0, hW0⟩ : ∃ W, W = (w.alloc (.cells #[.slice none 0 0, .int .i64 0] 33)) := ⟨_, rfl⟩
  rw [← hW0] at H0 ⊢
  clear hW0
  go_upto_region 3 with fail
  have H1 := Lib.hid (H0.out.step (allocB W0 (.cells fr 80)))
  have HG := Lib.hid (heap_alloc_new W0 (.cells fr 80))
  go_wp2_with (with_reducible refine listStore (by kernel_rfl) 33 (.tmp 2) (.tmp 13) rfl w.heap.size #[.slice (some ⟨W0.heap.size, 0, none⟩) k k, .int .i64 0] _ _ rfl rfl H1.out.get0 (by kernel_rfl) (by kernel_rfl) (by kernel_rfl) ?_)
  refine bodyPost_ret (v := .tuple #[.agg #[.slice (some ⟨W0.heap.size, 0, none⟩) k k, .int .i64 0], .int .i64 0]) (results_cell2 rfl _ _ rfl (load_whole (setRow_heap _ _ _ _ _ _ H1.out.get0) Tryz.underlying33 (by kernel_rfl) (by kernel_rfl)) rfl) rfl ?_
  have hlt : w.heap.size < W0.heap.size := by have := H0.out.lt (i := 0) (by simp); omega
  have hx := (heap_setRow_other (W0.alloc (.cells fr 80)) w.heap.size #[.slice (some ⟨W0.heap.size, 0, none⟩) k k, .int .i64 0] W0.heap.size (by omega)).trans HG.out
  refine ⟨W0.heap.size, rfl, reads_blk (T := 80) (by rw [hx, ← HFR.out]) (Nat.le_refl _), fun ad e => ?_, (H1.out.row 0 _ _ rfl).below⟩
  injection e with e
  subst e
  exact ⟨by show w.heap.size ≤ W0.heap.size; omega, _, _, hx⟩
theorem begun {N n k : Nat} (hn : 1 ≤ n ∧ n ≤ 60 ∧ N ≤ 3000) (hN : 10 ≤ N) (hk : 1 ≤ k ∧ k ≤ 64) : ∃ s : Tx.St, Tx.beginS (newS N n k) = (s, 1, 0) ∧ SS N n k [1] 1262 s (freeF k) (fun _ => newB (0 : Nat)) ∧ Tx.LogB (newS N n k) := by
  have h0 := pi_new hn hk
  have hR : Rc.Right { (Rc.bare 1 0 0 1) with lsn := (newS N n k).log.end_ + 1 } := .small 1 1 0 1 (by decide) ⟨by decide, by decide⟩ ⟨by decide, by decide⟩ ⟨by decide, by decide⟩
  obtain ⟨g2, e, h1, h2, h3⟩ := h0.log (Rc.bare 1 0 0 1) hR (by decide) (by show (0 : Int) + 1262 ≤ _; omega)
  have e2 := Tx.putS_of (s := newS N n k) e
  have e3 := Tx.beginS_ok (s := newS N n k) (by show (Tx.putS (newS N n k) (Rc.bare 1 0 0 1)).2 = 0; rw [e2])
  have e4 : Tx.putS (newS N n k) (Rc.bare 1 0 0 (newS N n k).next) = _ := e2
  rw [e4] at e3
  refine ⟨_, e3, ⟨⟨h1.zl, h1.zp, h1.n1, h1.pw, h1.nf, h1.hd, h1.fr, h1.nm, h1.dk⟩, ⟨rfl, fun a ha => ?_, by decide⟩, freeF_len k, by show g2.end_ ≤ 1262; have h4 : (newS N n k).log.end_ = 0 := rfl; omega⟩, h0.logB⟩
  have ha2 : a = ⟨1, 1, 1, false⟩ := List.mem_singleton.1 ha
  rw [ha2]
  exact ⟨⟨by decide, by decide⟩, ⟨by decide, by decide⟩, ⟨by decide, by decide⟩⟩
def FsOut (n k : Nat) (w : World) (e : Ending) (w' : World) : Prop :=
  ∃ (s : Tx.St) (p : SP), e = .returned (.tuple #[storeV s p, .int .i64 1, .bool true]) ∧ PoolR w' s p (freeF k) ∧ SS 3000 n k [1] 1262 s (freeF k) (fun _ => newB (0 : Nat)) ∧ Below w.heap.size w w'
set_option maxRecDepth 100000 in
set_option maxHeartbeats 16000000 in
theorem lfresh_any (n k : Nat) (hn : 1 ≤ n ∧ n ≤ 60) (hk : 1 ≤ k ∧ k ≤ 64) (w : World) :
    Calls Tryz.prog 8 #[.int .i64 (n : Int), .int .i64 (k : Int)] w (FsOut n k w) := by
  obtain ⟨s, ebs, hSS, hLB⟩ := begun (N := 3000) (n := n) (k := k) ⟨hn.1, hn.2, by omega⟩ (by omega) hk
  have hM : 1 + 3000 + 4 * n ≤ 4000 := by omega
  have HNE := Lib.hid (fun W => show Calls Tryz.prog 22 #[.int .i64 ((1 + 3000 + 4 * n : Nat) : Int)] W (CNewOut (Lg.newD (1 + 3000 + 4 * n)) W) from cnew_any (1 + 3000 + 4 * n) (by omega) hM W)
  have HLN := Lib.hid (fun W => lnew_any 1 3000 W)
  have HPN := Lib.hid (fun W => ppool_any k hk W)
  have hdl : (newS 3000 n k).disk = Lg.newD (1 + 3000 + 4 * n) := rfl
  have HBG := Lib.hid (fun (A1 : Option Addr) (c1 bf : Nat) W (hd : DiskR W (Lg.newD (1 + 3000 + 4 * n)) A1 c1) (ht : NewT 0 W 9 A1) => show Calls Tryz.prog 24 #[storeV (newS 3000 n k) (⟨A1, c1, some ⟨bf, 0, none⟩, k, k, none, 0⟩ : SP)] W (BegOut (s, 1, 0) (⟨A1, c1, some ⟨bf, 0, none⟩, k, k, none, 0⟩ : SP) W) from by
    have h9 := tbegin_any (newS 3000 n k) (⟨A1, c1, some ⟨bf, 0, none⟩, k, k, none, 0⟩ : SP) hLB (by show (0 : Nat) ≤ 800000; omega) (by show (0 : Int) ≤ 1; decide) (by show (1 : Int) ≤ 1000000000; decide) W ⟨hd, ht, Reads.none_ _ _ _ _, NewT.none_ _ _ _⟩
    rw [ebs] at h9
    exact h9)
  have HQ := Lib.hid (fun (p : SP) w' h1 h2 => show FsOut n k w (.returned (.tuple #[storeV s p, .int .i64 1, .bool true])) w' from ⟨s, p, rfl, h1, hSS, h2⟩)
  generalize FsOut n k w = Q at HQ ⊢
  have hm1 : IntKind.i64.wrap (4 * (n : Int)) = 4 * (n : Int) := IntWalk.i64_in _ (by omega)
  have hm2 : IntKind.i64.wrap (3001 + 4 * (n : Int)) = ((1 + 3000 + 4 * n : Nat) : Int) := by rw [IntWalk.i64_in _ (by omega)]; omega
  clear ebs hSS hLB hM hdl
  dsimp only [storeV, newS, List.length_nil] at HBG
  generalize ((1 + 3000 + 4 * n : Nat) : Int) = m0 at hm2 HNE
  generalize Lg.newD (1 + 3000 + 4 * n) = d0 at HNE HBG
  go_enter Tryz.func8, Tryz.ntmps8
  go_upto_region 1 with fail
  have H0 := Lib.hid (show BxL w.heap.size w [(#[.int .i64 0, .int .i64 0, .int .i64 0, .slice none 0 0, .int .i64 0, .bool false, .int .i64 0, .int .i64 0, .int .i64 0, .int .i64 0, .string ⟨#[]⟩, .slice none 0 0, .int .i64 0, .slice none 0 0, .int .i64 0], 36)] (w.alloc (.cells #[.int .i64 0, .int .i64 0, .int .i64 0, .slice none 0 0, .int .i64 0, .bool false, .int .i64 0, .int .i64 0, .int .i64 0, .int .i64 0, .string ⟨#[]⟩, .slice none 0 0, .int .i64 0, .slice none 0 0, .int .i64 0] 36)) from ((BxL.nil (Below.refl w.heap.size w)).new (by simp) #[.int .i64 0, .int .i64 0, .int .i64 0, .slice none 0 0, .int .i64 0, .bool false, .int .i64 0, .int .i64 0, .int .i64 0, .int .i64 0, .string ⟨#[]⟩, .slice none 0 0, .int .i64 0, .slice none 0 0, .int .i64 0] 36))
  obtain ⟨W0, hW0⟩ : ∃ W, W = (w.alloc (.cells #[.int .i64 0, .int .i64 0, .int .i64 0, .slice none 0 0, .int .i64 0, .bool false, .int .i64 0, .int .i64 0, .int .i64 0, .int .i64 0, .string ⟨#[]⟩, .slice none 0 0, .int .i64 0, .slice none 0 0, .int .i64 0] 36)) := ⟨_, rfl⟩
  rw [← hW0] at H0 ⊢
  clear hW0
  go_upto_region 2 with (with_reducible refine wpList_store_new rfl 25 (.tmp 7) (.tmp 17) rfl #[.int .i64 3000, .int .i64 (n : Int), .int .i64 (k : Int)] _ _ rfl (by kernel_rfl) (by kernel_rfl) (by kernel_rfl) (by kernel_rfl) ?_)
  have H1 := Lib.hid (H0.out.step (allocB W0 (.cells #[.int .i64 3000, .int .i64 (n : Int), .int .i64 (k : Int)] 25)))
  have HZ1 := Lib.hid (heap_alloc_new W0 (.cells #[.int .i64 3000, .int .i64 (n : Int), .int .i64 (k : Int)] 25))
  obtain ⟨gz, hgz⟩ : ∃ g, g = W0.heap.size := ⟨_, rfl⟩
  obtain ⟨w1, hw1⟩ : ∃ W, W = W0.alloc (.cells #[.int .i64 3000, .int .i64 (n : Int), .int .i64 (k : Int)] 25) := ⟨_, rfl⟩
  rw [← hgz, ← hw1] at HZ1
  rw [← hw1] at H1
  rw [← hw1, ← hgz]
  clear hw1 hgz H0
  try simp only [Act.put]
  have hc0 := show w1.cell? ⟨gz, 0, none⟩ = some (.int .i64 3000) from by rw [blkCell HZ1.out]; rfl
  go_upto_region 3 with (first
    | (go_at_call 22; (refine (HNE.out _).mono ?_); rintro e w2 ⟨A1, c1, rfl, hd2, ht2, hb2⟩; dsimp only [diskV])
    | (with_reducible refine wpList_store_new rfl 28 (.tmp 8) (.tmp 26) rfl #[.slice A1 d0.sectors.length c1, .int .i64 d0.left, .bool d0.down] _ _ rfl (by kernel_rfl) (by kernel_rfl) (by kernel_rfl) (by kernel_rfl) ?_))
  have hb3 := joinB hb2 (allocB w2 (.cells #[.slice A1 d0.sectors.length c1, .int .i64 d0.left, .bool d0.down] 28))
  have H3 := Lib.hid (H1.out.step hb3)
  have HZ3 := Lib.hid (blkOld HZ1.out hb3)
  have HD3 := Lib.hid (heap_alloc_new w2 (.cells #[.slice A1 d0.sectors.length c1, .int .i64 d0.left, .bool d0.down] 28))
  have HE3 := Lib.hid (hd2.below (allocB w2 (.cells #[.slice A1 d0.sectors.length c1, .int .i64 d0.left, .bool d0.down] 28)))
  have HT3 := Lib.hid ((ht2.mono (Nat.zero_le _)).below (allocB w2 (.cells #[.slice A1 d0.sectors.length c1, .int .i64 d0.left, .bool d0.down] 28)))
  obtain ⟨gd, hgd⟩ : ∃ g, g = w2.heap.size := ⟨_, rfl⟩
  obtain ⟨w3, hw3⟩ : ∃ W, W = w2.alloc (.cells #[.slice A1 d0.sectors.length c1, .int .i64 d0.left, .bool d0.down] 28) := ⟨_, rfl⟩
  rw [← hgd, ← hw3] at HD3
  rw [← hw3] at H3 HZ3 HE3 HT3
  rw [← hw3, ← hgd]
  clear hw3 hgd hb2 hb3 hd2 ht2 H1 HZ1 hc0 HNE hm1 hm2
  try simp only [Act.put]
  go_upto_region 4 with (first
    | (go_at_call 23; (refine (HPN.out _).mono ?_); rintro e w4 ⟨bf, rfl, hfr, hft, hb4⟩)
    | (with_reducible refine wpList_store_new rfl 33 (.tmp 10) (.tmp 31) rfl #[.slice (some ⟨bf, 0, none⟩) k k, .int .i64 0] _ _ rfl (by kernel_rfl) (by kernel_rfl) (by kernel_rfl) (by kernel_rfl) ?_))
  have hb5 := joinB hb4 (allocB w4 (.cells #[.slice (some ⟨bf, 0, none⟩) k k, .int .i64 0] 33))
  have H5 := Lib.hid (H3.out.step hb5)
  have HZ5 := Lib.hid (blkOld HZ3.out hb5)
  have HD5 := Lib.hid (blkOld HD3.out hb5)
  have HE5 := Lib.hid (HE3.out.below hb5)
  have HT5 := Lib.hid (HT3.out.below hb5)
  have HP5 := Lib.hid (heap_alloc_new w4 (.cells #[.slice (some ⟨bf, 0, none⟩) k k, .int .i64 0] 33))
  have HR5 := Lib.hid (hfr.below (allocB w4 (.cells #[.slice (some ⟨bf, 0, none⟩) k k, .int .i64 0] 33)))
  have HF5 := Lib.hid ((hft.mono (Nat.zero_le _)).below (allocB w4 (.cells #[.slice (some ⟨bf, 0, none⟩) k k, .int .i64 0] 33)))
  obtain ⟨gp, hgp⟩ : ∃ g, g = w4.heap.size := ⟨_, rfl⟩
  obtain ⟨w5, hw5⟩ : ∃ W, W = w4.alloc (.cells #[.slice (some ⟨bf, 0, none⟩) k k, .int .i64 0] 33) := ⟨_, rfl⟩
  rw [← hgp, ← hw5] at HP5
  rw [← hw5] at H5 HZ5 HD5 HE5 HT5 HR5 HF5
  rw [← hw5, ← hgp]
  clear hw5 hgp hb4 hb5 hfr hft H3 HZ3 HD3 HE3 HT3 HPN
  try simp only [Act.put]
  go_upto_region 6 with fail
  go_cut [12, 13, 14] (fun x y z wc => ∃ (g : Nat) (p : SP), x = .pointer (some ⟨g, 0, none⟩) ∧ y = .int .i64 1 ∧ z = .int .i64 0 ∧ wc.heap[g]? = some (.cells (stA s p) 36 (0, 0)) ∧ PoolR wc s p (freeF k) ∧ Below w5.heap.size w5 wc)
  case first =>
    have HS8 := Lib.hid (fun (u : World) (hu : Below w5.heap.size w5 u) => show u.heap[gz]? = some (.cells #[.int .i64 3000, .int .i64 (n : Int), .int .i64 (k : Int)] 25 (0, 0)) ∧ u.heap[gd]? = some (.cells #[.slice A1 d0.sectors.length c1, .int .i64 d0.left, .bool d0.down] 28 (0, 0)) ∧ u.heap[gp]? = some (.cells #[.slice (some ⟨bf, 0, none⟩) k k, .int .i64 0] 33 (0, 0)) from ⟨blkOld HZ5.out hu, blkOld HD5.out hu, blkOld HP5.out hu⟩)
    have hQ : Below w5.heap.size w5 w5.drew := (Below.refl _ w5).drew
    have hSn := HS8.out _ hQ
    refine wp_region_held_drew (S := (fun u => u.heap[gz]? = some (.cells #[.int .i64 3000, .int .i64 (n : Int), .int .i64 (k : Int)] 25 (0, 0)) ∧ u.heap[gd]? = some (.cells #[.slice A1 d0.sectors.length c1, .int .i64 d0.left, .bool d0.down] 28 (0, 0)) ∧ u.heap[gp]? = some (.cells #[.slice (some ⟨bf, 0, none⟩) k k, .int .i64 0] 33 (0, 0)))) (by kernel_rfl) ?_ (fun hHeld => ?_)
    · exact hSn
    refine tkV 0 (some 41) (v := .agg #[.int .i64 3000, .int .i64 (n : Int), .int .i64 (k : Int)]) rfl (yieldsIf_load_mid (by rfl) 25 (.tmp 7) rfl gz 0 (by rfl) #[.int .i64 3000, .int .i64 (n : Int), .int .i64 (k : Int)].toList _ (fun u hu => (by intro j v hj; rw [Nat.zero_add, blkCell hu.1]; simpa using hj)) Tryz.underlying25 (by kernel_rfl) (by kernel_rfl)) ?_
    try simp only [Act.put, List.setIfInBounds_toArray, List.set_cons_zero, List.set_cons_succ]
    refine tkV 1 (some 42) (v := .agg #[.slice A1 d0.sectors.length c1, .int .i64 d0.left, .bool d0.down]) rfl (yieldsIf_load_mid (by rfl) 28 (.tmp 8) rfl gd 0 (by rfl) #[.slice A1 d0.sectors.length c1, .int .i64 d0.left, .bool d0.down].toList _ (fun u hu => (by intro j v hj; rw [Nat.zero_add, blkCell hu.2.1]; simpa using hj)) Tryz.underlying28 (by kernel_rfl) (by kernel_rfl)) ?_
    try simp only [Act.put, List.setIfInBounds_toArray, List.set_cons_zero, List.set_cons_succ]
    refine tkW 2 (some 43) (v := ?_) rfl ?_ ?_
    rotate_left
    · intro u hSu; have hcl := show u.cell? ⟨gz, 0, none⟩ = some (.int .i64 3000) from (by rw [blkCell hSu.1]; rfl); clear hSu; go_simp; (try with_reducible rfl)
    try simp only [Act.put, List.setIfInBounds_toArray, List.set_cons_zero, List.set_cons_succ]
    refine tkW 3 (some 44) (v := ?_) rfl ?_ ?_
    rotate_left
    · intro u hSu; have hcl := show u.cell? ⟨gz, 0, none⟩ = some (.int .i64 3000) from (by rw [blkCell hSu.1]; rfl); clear hSu; go_simp; (try with_reducible rfl)
    try simp only [Act.put, List.setIfInBounds_toArray, List.set_cons_zero, List.set_cons_succ]
    refine tkV 5 (some 46) (v := .agg #[.slice (some ⟨bf, 0, none⟩) k k, .int .i64 0]) rfl (yieldsIf_load_mid (by rfl) 33 (.tmp 10) rfl gp 0 (by rfl) #[.slice (some ⟨bf, 0, none⟩) k k, .int .i64 0].toList _ (fun u hu => (by intro j v hj; rw [Nat.zero_add, blkCell hu.2.2]; simpa using hj)) Tryz.underlying33 (by kernel_rfl) (by kernel_rfl)) ?_
    try simp only [Act.put, List.setIfInBounds_toArray, List.set_cons_zero, List.set_cons_succ]
    refine wpAnyH_ready (rs := [4, 12]) (by kernel_rfl) (by simp) ?_
    refine (AllReadyH.cons (o := { dst := some 45, op := _, type := _, pos := _, after := _, guard := _ }) rfl (fun K hK => ?_) (AllReadyH.cons (o := { dst := some 12, op := _, type := _, pos := _, after := _, guard := _ }) rfl (fun K hK => ?_) AllReadyH.nil))
    ·
      go_simp
      (refine (HLN.out _).mono ?_); rintro e wl ⟨rfl, hb9⟩; (try dsimp only [logV]); have hQ2 := joinB hQ hb9; clear hQ hSn; have hQ := hQ2; clear hQ2; have hSn := HS8.out _ hQ; clear hb9
      refine hK.out _ _ ?_ (fun hHeld => ?_)
      · exact hSn
      clear hK K
      try simp only [Act.put, List.setIfInBounds_toArray, List.set_cons_zero, List.set_cons_succ]
      refine tkW 6 (some 47) (v := ?_) rfl ?_ ?_
      rotate_left
      · intro u hSu; have hcl := show u.cell? ⟨gz, 0, none⟩ = some (.int .i64 3000) from (by rw [blkCell hSu.1]; rfl); clear hSu; go_simp; (try with_reducible rfl)
      try simp only [Act.put, List.setIfInBounds_toArray, List.set_cons_zero, List.set_cons_succ]
      refine wpAnyH_ready (rs := [7, 12]) (by kernel_rfl) (by simp) ?_
      refine (AllReadyH.cons (o := { dst := some 48, op := _, type := _, pos := _, after := _, guard := _ }) rfl (fun K hK => ?_) (AllReadyH.cons (o := { dst := some 12, op := _, type := _, pos := _, after := _, guard := _ }) rfl (fun K hK => ?_) AllReadyH.nil))
      ·
        go_simp
        (refine (HBG.out A1 c1 bf _ (HE5.out.below hQ) (HT5.out.below hQ)).mono ?_); rintro e wb ⟨p, rfl, hs9, hf9, hb9⟩; have hQ2 := joinB hQ hb9; clear hQ hSn; have hQ := hQ2; clear hQ2; have hSn := HS8.out _ hQ; have hp9 := show PoolR wb s p (freeF k) from ⟨hs9, by rw [hf9.2.1, freeF_len], by rw [hf9.1, hf9.2.2, freeF_len]; exact HR5.out.below hQ, by rw [hf9.1]; exact HF5.out.below hQ⟩; clear hb9
        refine hK.out _ _ ?_ (fun hHeld => ?_)
        · exact hSn
        clear hK K
        try simp only [Act.put, List.setIfInBounds_toArray, List.set_cons_zero, List.set_cons_succ]
        refine tkW 8 (some 40) (v := ?_) rfl ?_ ?_
        rotate_left
        · intro u hSu; have hcl := show u.cell? ⟨gz, 0, none⟩ = some (.int .i64 3000) from (by rw [blkCell hSu.1]; rfl); clear hSu; go_simp; (try with_reducible rfl)
        try simp only [Act.put, List.setIfInBounds_toArray, List.set_cons_zero, List.set_cons_succ]
        refine tkW 9 (some 49) (v := ?_) rfl ?_ ?_
        rotate_left
        · intro u hSu; have hcl := show u.cell? ⟨gz, 0, none⟩ = some (.int .i64 3000) from (by rw [blkCell hSu.1]; rfl); clear hSu; go_simp; (try with_reducible rfl)
        try simp only [Act.put, List.setIfInBounds_toArray, List.set_cons_zero, List.set_cons_succ]
        refine tkW 10 (some 50) (v := ?_) rfl ?_ ?_
        rotate_left
        · intro u hSu; have hcl := show u.cell? ⟨gz, 0, none⟩ = some (.int .i64 3000) from (by rw [blkCell hSu.1]; rfl); clear hSu; go_simp; (try with_reducible rfl)
        try simp only [Act.put, List.setIfInBounds_toArray, List.set_cons_zero, List.set_cons_succ]
        refine tkW 11 (some 51) (v := ?_) rfl ?_ ?_
        rotate_left
        · intro u hSu; have hcl := show u.cell? ⟨gz, 0, none⟩ = some (.int .i64 3000) from (by rw [blkCell hSu.1]; rfl); clear hSu; go_simp; (try with_reducible rfl)
        try simp only [Act.put, List.setIfInBounds_toArray, List.set_cons_zero, List.set_cons_succ]
        refine rdH 12 (some 12) rfl (fun K hK => ?_)
        go_simp
        have hlo : w5.heap.size ≤ wb.heap.size := hQ.size; have HGn := heap_alloc_new wb (.cells #[.int .i64 0, .int .i64 0, .int .i64 0, .slice none 0 0, .int .i64 0, .bool false, .int .i64 0, .int .i64 0, .int .i64 0, .int .i64 0, .string ⟨#[]⟩, .slice none 0 0, .int .i64 0, .slice none 0 0, .int .i64 0] 36); have hb9 := allocB wb (.cells #[.int .i64 0, .int .i64 0, .int .i64 0, .slice none 0 0, .int .i64 0, .bool false, .int .i64 0, .int .i64 0, .int .i64 0, .int .i64 0, .string ⟨#[]⟩, .slice none 0 0, .int .i64 0, .slice none 0 0, .int .i64 0] 36); have hp8 := hp9.below hb9; clear hp9; have hp9 := hp8; clear hp8; have hQ2 := joinB hQ hb9; clear hQ hSn; have hQ := hQ2; clear hQ2; have hSn := HS8.out _ hQ; clear hb9
        refine hK.out _ _ ?_ (fun hHeld => ?_)
        · exact hSn
        clear hK K
        try simp only [Act.put, List.setIfInBounds_toArray, List.set_cons_zero, List.set_cons_succ]
        refine rdH 13 none rfl (fun K hK => ?_)
        refine wantedIf (by rfl) ?_
        refine wp_store_whole 36 (.tmp 12) (.tmp 49) rfl wb.heap.size (stA s p) _ _ rfl rfl HGn (by kernel_rfl) (by kernel_rfl) (by kernel_rfl) ?_
        have hg6 := setRow_heap _ _ _ (stA s p) _ _ HGn
        have hp6 := hp9.other (t := 36) HGn (by decide) (by decide) (by decide) (stA s p)
        have hQ2 := rowB hlo hQ (stA s p); clear hQ hSn; have hQ := hQ2; clear hQ2; have hSn := HS8.out _ hQ
        refine hK.out _ _ ?_ (fun hHeld => ?_)
        · exact hSn
        clear hK K
        try simp only [Act.put, List.setIfInBounds_toArray, List.set_cons_zero, List.set_cons_succ]
        refine tkW 14 (some 13) (v := ?_) rfl ?_ ?_
        rotate_left
        · intro u hSu; have hcl := show u.cell? ⟨gz, 0, none⟩ = some (.int .i64 3000) from (by rw [blkCell hSu.1]; rfl); clear hSu; go_simp; (try with_reducible rfl)
        try simp only [Act.put, List.setIfInBounds_toArray, List.set_cons_zero, List.set_cons_succ]
        refine tkW 15 (some 14) (v := ?_) rfl ?_ ?_
        rotate_left
        · intro u hSu; have hcl := show u.cell? ⟨gz, 0, none⟩ = some (.int .i64 3000) from (by rw [blkCell hSu.1]; rfl); clear hSu; go_simp; (try with_reducible rfl)
        try simp only [Act.put, List.setIfInBounds_toArray, List.set_cons_zero, List.set_cons_succ]
        refine wpAnyH_done (by kernel_rfl) ?_ _
        go_wp2_with fail
        go_meet
        case rel => exact ⟨_, p, rfl, rfl, rfl, hg6, hp6, hQ⟩
      ·
        go_simp
        have hlo : w5.heap.size ≤ wl.heap.size := hQ.size; have HGn := heap_alloc_new wl (.cells #[.int .i64 0, .int .i64 0, .int .i64 0, .slice none 0 0, .int .i64 0, .bool false, .int .i64 0, .int .i64 0, .int .i64 0, .int .i64 0, .string ⟨#[]⟩, .slice none 0 0, .int .i64 0, .slice none 0 0, .int .i64 0] 36); have hb9 := allocB wl (.cells #[.int .i64 0, .int .i64 0, .int .i64 0, .slice none 0 0, .int .i64 0, .bool false, .int .i64 0, .int .i64 0, .int .i64 0, .int .i64 0, .string ⟨#[]⟩, .slice none 0 0, .int .i64 0, .slice none 0 0, .int .i64 0] 36); have hQ2 := joinB hQ hb9; clear hQ hSn; have hQ := hQ2; clear hQ2; have hSn := HS8.out _ hQ; clear hb9
        refine hK.out _ _ ?_ (fun hHeld => ?_)
        · exact hSn
        clear hK K
        try simp only [Act.put, List.setIfInBounds_toArray, List.set_cons_zero, List.set_cons_succ]
        refine rdH 7 (some 48) rfl (fun K hK => ?_)
        go_simp
        (refine (HBG.out A1 c1 bf _ (HE5.out.below hQ) (HT5.out.below hQ)).mono ?_); rintro e wb ⟨p, rfl, hs9, hf9, hb9⟩; have hQ2 := joinB hQ hb9; clear hQ hSn; have hQ := hQ2; clear hQ2; have hSn := HS8.out _ hQ; have HGm := blkOld HGn hb9; clear HGn; have HGn := HGm; clear HGm; have hp9 := show PoolR wb s p (freeF k) from ⟨hs9, by rw [hf9.2.1, freeF_len], by rw [hf9.1, hf9.2.2, freeF_len]; exact HR5.out.below hQ, by rw [hf9.1]; exact HF5.out.below hQ⟩; clear hb9
        refine hK.out _ _ ?_ (fun hHeld => ?_)
        · exact hSn
        clear hK K
        try simp only [Act.put, List.setIfInBounds_toArray, List.set_cons_zero, List.set_cons_succ]
        refine tkW 8 (some 40) (v := ?_) rfl ?_ ?_
        rotate_left
        · intro u hSu; have hcl := show u.cell? ⟨gz, 0, none⟩ = some (.int .i64 3000) from (by rw [blkCell hSu.1]; rfl); clear hSu; go_simp; (try with_reducible rfl)
        try simp only [Act.put, List.setIfInBounds_toArray, List.set_cons_zero, List.set_cons_succ]
        refine tkW 9 (some 49) (v := ?_) rfl ?_ ?_
        rotate_left
        · intro u hSu; have hcl := show u.cell? ⟨gz, 0, none⟩ = some (.int .i64 3000) from (by rw [blkCell hSu.1]; rfl); clear hSu; go_simp; (try with_reducible rfl)
        try simp only [Act.put, List.setIfInBounds_toArray, List.set_cons_zero, List.set_cons_succ]
        refine tkW 10 (some 50) (v := ?_) rfl ?_ ?_
        rotate_left
        · intro u hSu; have hcl := show u.cell? ⟨gz, 0, none⟩ = some (.int .i64 3000) from (by rw [blkCell hSu.1]; rfl); clear hSu; go_simp; (try with_reducible rfl)
        try simp only [Act.put, List.setIfInBounds_toArray, List.set_cons_zero, List.set_cons_succ]
        refine tkW 11 (some 51) (v := ?_) rfl ?_ ?_
        rotate_left
        · intro u hSu; have hcl := show u.cell? ⟨gz, 0, none⟩ = some (.int .i64 3000) from (by rw [blkCell hSu.1]; rfl); clear hSu; go_simp; (try with_reducible rfl)
        try simp only [Act.put, List.setIfInBounds_toArray, List.set_cons_zero, List.set_cons_succ]
        refine rdH 13 none rfl (fun K hK => ?_)
        refine wantedIf (by rfl) ?_
        refine wp_store_whole 36 (.tmp 12) (.tmp 49) rfl wl.heap.size (stA s p) _ _ rfl rfl HGn (by kernel_rfl) (by kernel_rfl) (by kernel_rfl) ?_
        have hg6 := setRow_heap _ _ _ (stA s p) _ _ HGn
        have hp6 := hp9.other (t := 36) HGn (by decide) (by decide) (by decide) (stA s p)
        have hQ2 := rowB hlo hQ (stA s p); clear hQ hSn; have hQ := hQ2; clear hQ2; have hSn := HS8.out _ hQ
        refine hK.out _ _ ?_ (fun hHeld => ?_)
        · exact hSn
        clear hK K
        try simp only [Act.put, List.setIfInBounds_toArray, List.set_cons_zero, List.set_cons_succ]
        refine tkW 14 (some 13) (v := ?_) rfl ?_ ?_
        rotate_left
        · intro u hSu; have hcl := show u.cell? ⟨gz, 0, none⟩ = some (.int .i64 3000) from (by rw [blkCell hSu.1]; rfl); clear hSu; go_simp; (try with_reducible rfl)
        try simp only [Act.put, List.setIfInBounds_toArray, List.set_cons_zero, List.set_cons_succ]
        refine tkW 15 (some 14) (v := ?_) rfl ?_ ?_
        rotate_left
        · intro u hSu; have hcl := show u.cell? ⟨gz, 0, none⟩ = some (.int .i64 3000) from (by rw [blkCell hSu.1]; rfl); clear hSu; go_simp; (try with_reducible rfl)
        try simp only [Act.put, List.setIfInBounds_toArray, List.set_cons_zero, List.set_cons_succ]
        refine wpAnyH_done (by kernel_rfl) ?_ _
        go_wp2_with fail
        go_meet
        case rel => exact ⟨_, p, rfl, rfl, rfl, hg6, hp6, hQ⟩
    ·
      go_simp
      have hlo : w5.heap.size ≤ w5.drew.heap.size := hQ.size; have HGn := heap_alloc_new w5.drew (.cells #[.int .i64 0, .int .i64 0, .int .i64 0, .slice none 0 0, .int .i64 0, .bool false, .int .i64 0, .int .i64 0, .int .i64 0, .int .i64 0, .string ⟨#[]⟩, .slice none 0 0, .int .i64 0, .slice none 0 0, .int .i64 0] 36); have hb9 := allocB w5.drew (.cells #[.int .i64 0, .int .i64 0, .int .i64 0, .slice none 0 0, .int .i64 0, .bool false, .int .i64 0, .int .i64 0, .int .i64 0, .int .i64 0, .string ⟨#[]⟩, .slice none 0 0, .int .i64 0, .slice none 0 0, .int .i64 0] 36); have hQ2 := joinB hQ hb9; clear hQ hSn; have hQ := hQ2; clear hQ2; have hSn := HS8.out _ hQ; clear hb9
      refine hK.out _ _ ?_ (fun hHeld => ?_)
      · exact hSn
      clear hK K
      try simp only [Act.put, List.setIfInBounds_toArray, List.set_cons_zero, List.set_cons_succ]
      refine rdH 4 (some 45) rfl (fun K hK => ?_)
      go_simp
      (refine (HLN.out _).mono ?_); rintro e wl ⟨rfl, hb9⟩; (try dsimp only [logV]); have hQ2 := joinB hQ hb9; clear hQ hSn; have hQ := hQ2; clear hQ2; have hSn := HS8.out _ hQ; have HGm := blkOld HGn hb9; clear HGn; have HGn := HGm; clear HGm; clear hb9
      refine hK.out _ _ ?_ (fun hHeld => ?_)
      · exact hSn
      clear hK K
      try simp only [Act.put, List.setIfInBounds_toArray, List.set_cons_zero, List.set_cons_succ]
      refine tkW 6 (some 47) (v := ?_) rfl ?_ ?_
      rotate_left
      · intro u hSu; have hcl := show u.cell? ⟨gz, 0, none⟩ = some (.int .i64 3000) from (by rw [blkCell hSu.1]; rfl); clear hSu; go_simp; (try with_reducible rfl)
      try simp only [Act.put, List.setIfInBounds_toArray, List.set_cons_zero, List.set_cons_succ]
      refine rdH 7 (some 48) rfl (fun K hK => ?_)
      go_simp
      (refine (HBG.out A1 c1 bf _ (HE5.out.below hQ) (HT5.out.below hQ)).mono ?_); rintro e wb ⟨p, rfl, hs9, hf9, hb9⟩; have hQ2 := joinB hQ hb9; clear hQ hSn; have hQ := hQ2; clear hQ2; have hSn := HS8.out _ hQ; have HGm := blkOld HGn hb9; clear HGn; have HGn := HGm; clear HGm; have hp9 := show PoolR wb s p (freeF k) from ⟨hs9, by rw [hf9.2.1, freeF_len], by rw [hf9.1, hf9.2.2, freeF_len]; exact HR5.out.below hQ, by rw [hf9.1]; exact HF5.out.below hQ⟩; clear hb9
      refine hK.out _ _ ?_ (fun hHeld => ?_)
      · exact hSn
      clear hK K
      try simp only [Act.put, List.setIfInBounds_toArray, List.set_cons_zero, List.set_cons_succ]
      refine tkW 8 (some 40) (v := ?_) rfl ?_ ?_
      rotate_left
      · intro u hSu; have hcl := show u.cell? ⟨gz, 0, none⟩ = some (.int .i64 3000) from (by rw [blkCell hSu.1]; rfl); clear hSu; go_simp; (try with_reducible rfl)
      try simp only [Act.put, List.setIfInBounds_toArray, List.set_cons_zero, List.set_cons_succ]
      refine tkW 9 (some 49) (v := ?_) rfl ?_ ?_
      rotate_left
      · intro u hSu; have hcl := show u.cell? ⟨gz, 0, none⟩ = some (.int .i64 3000) from (by rw [blkCell hSu.1]; rfl); clear hSu; go_simp; (try with_reducible rfl)
      try simp only [Act.put, List.setIfInBounds_toArray, List.set_cons_zero, List.set_cons_succ]
      refine tkW 10 (some 50) (v := ?_) rfl ?_ ?_
      rotate_left
      · intro u hSu; have hcl := show u.cell? ⟨gz, 0, none⟩ = some (.int .i64 3000) from (by rw [blkCell hSu.1]; rfl); clear hSu; go_simp; (try with_reducible rfl)
      try simp only [Act.put, List.setIfInBounds_toArray, List.set_cons_zero, List.set_cons_succ]
      refine tkW 11 (some 51) (v := ?_) rfl ?_ ?_
      rotate_left
      · intro u hSu; have hcl := show u.cell? ⟨gz, 0, none⟩ = some (.int .i64 3000) from (by rw [blkCell hSu.1]; rfl); clear hSu; go_simp; (try with_reducible rfl)
      try simp only [Act.put, List.setIfInBounds_toArray, List.set_cons_zero, List.set_cons_succ]
      refine rdH 13 none rfl (fun K hK => ?_)
      refine wantedIf (by rfl) ?_
      refine wp_store_whole 36 (.tmp 12) (.tmp 49) rfl w5.drew.heap.size (stA s p) _ _ rfl rfl HGn (by kernel_rfl) (by kernel_rfl) (by kernel_rfl) ?_
      have hg6 := setRow_heap _ _ _ (stA s p) _ _ HGn
      have hp6 := hp9.other (t := 36) HGn (by decide) (by decide) (by decide) (stA s p)
      have hQ2 := rowB hlo hQ (stA s p); clear hQ hSn; have hQ := hQ2; clear hQ2; have hSn := HS8.out _ hQ
      refine hK.out _ _ ?_ (fun hHeld => ?_)
      · exact hSn
      clear hK K
      try simp only [Act.put, List.setIfInBounds_toArray, List.set_cons_zero, List.set_cons_succ]
      refine tkW 14 (some 13) (v := ?_) rfl ?_ ?_
      rotate_left
      · intro u hSu; have hcl := show u.cell? ⟨gz, 0, none⟩ = some (.int .i64 3000) from (by rw [blkCell hSu.1]; rfl); clear hSu; go_simp; (try with_reducible rfl)
      try simp only [Act.put, List.setIfInBounds_toArray, List.set_cons_zero, List.set_cons_succ]
      refine tkW 15 (some 14) (v := ?_) rfl ?_ ?_
      rotate_left
      · intro u hSu; have hcl := show u.cell? ⟨gz, 0, none⟩ = some (.int .i64 3000) from (by rw [blkCell hSu.1]; rfl); clear hSu; go_simp; (try with_reducible rfl)
      try simp only [Act.put, List.setIfInBounds_toArray, List.set_cons_zero, List.set_cons_succ]
      refine wpAnyH_done (by kernel_rfl) ?_ _
      go_wp2_with fail
      go_meet
      case rel => exact ⟨_, p, rfl, rfl, rfl, hg6, hp6, hQ⟩
  case rest =>
    obtain ⟨g, p, rfl, rfl, rfl, hg6, hp6, hb6⟩ := hcut
    obtain ⟨w6, rfl⟩ : ∃ wm : World, wm = wc := ⟨_, rfl⟩
    have H6 := Lib.hid (H5.out.step hb6)
    have HG6 := Lib.hid hg6
    have HP6 := Lib.hid hp6
    clear hg6 hp6 hb6 H5 HZ5 HD5 HE5 HT5 HP5 HR5 HF5 HBG HLN
    go_wp2_with (first | (with_reducible refine listLoad (by kernel_rfl) 36 (.tmp 12) rfl g rfl (stA s p) _ HG6.out _ Tryz.underlying36 (by kernel_rfl) (by kernel_rfl) ?_) | (with_reducible refine listStore (by kernel_rfl) 36 (.tmp 4) (.tmp 52) rfl w.heap.size (stA s p) _ _ rfl rfl H6.out.get0 (by kernel_rfl) (by kernel_rfl) (by kernel_rfl) ?_))
    refine bodyPost_ret (v := .tuple #[.agg (stA s p), .int .i64 1, .bool true]) (results_cell3 rfl _ _ rfl (load_whole (setRow_heap _ _ _ _ _ _ H6.out.get0) Tryz.underlying36 (by kernel_rfl) (by kernel_rfl)) rfl rfl) rfl ?_
    exact HQ.out p _ (HP6.out.other (t := 36) H6.out.get0 (by decide) (by decide) (by decide) _) (H6.out.row 0 (stA s p) _ rfl).below
def useN (q : Nat) : Nat := if q = 0 then 1 else 0
theorem si_new {n : Nat} (hn : 1 ≤ n) {C : Nat → ByteArray} (h : Turn (fun _ => newB (0 : Nat)) C 0 1 0 [freshB ((n + 7) / 8)]) : SI n C (freshB ((n + 7) / 8)) useN := by
  have h0 := new_nrm 0 (by omega)
  refine ⟨h.k, h.r, fresh_size (by omega), fun p _ => ?_, fun p hp _ => ?_, fun p hp _ => ?_, rfl⟩
  · rw [fresh_bit]
    unfold useN
    by_cases e : p = 0
    · rw [if_pos e, decide_eq_true e]; rfl
    · rw [if_neg e, decide_eq_false e]; rfl
  · rw [h.o p (by omega), h0.2]
    unfold useN
    rw [if_neg (by omega)]
  · rw [h.o p (by omega), h0.2]
def FmOut (n k : Nat) (w : World) (e : Ending) (w' : World) : Prop :=
  ∃ (s : Tx.St) (p : SP) (fs : List Fr) (C : Nat → ByteArray), e = .returned (.tuple #[storeV s p, .int .i64 1, .bool true]) ∧ PoolR w' s p fs ∧ SS 3000 n k [1] 3786 s fs C ∧ SI n C (freshB ((n + 7) / 8)) useN ∧ Below w.heap.size w w'
set_option maxRecDepth 100000 in
set_option maxHeartbeats 16000000 in
theorem lformat_any (n k : Nat) (hn : 1 ≤ n ∧ n ≤ 60) (hk : 1 ≤ k ∧ k ≤ 64) (w : World) :
    Calls Tryz.prog 7 #[.int .i64 (n : Int), .int .i64 (k : Int)] w (FmOut n k w) := by
  have HFS := Lib.hid (fun W => lfresh_any n k hn hk W)
  have HFO := Lib.hid (fun (s : Tx.St) (p : SP) (hs : SS 3000 n k [1] 1262 s (freeF k) (fun _ => newB (0 : Nat))) W (h : PoolR W s p (freeF k)) => sformat_any s p (freeF k) _ hs (by decide) 1 (by simp) ⟨by decide, by decide⟩ W h)
  have HQ := Lib.hid (fun (s : Tx.St) (p : SP) (fs : List Fr) (C : Nat → ByteArray) w' h1 h2 h3 h4 => show FmOut n k w (.returned (.tuple #[storeV s p, .int .i64 1, .bool true])) w' from ⟨s, p, fs, C, rfl, h1, h2, si_new hn.1 h3, h4⟩)
  generalize FmOut n k w = Q at HQ ⊢
  go_enter Tryz.func7, Tryz.ntmps7
  go_upto_region 1 with fail
  have H0 := Lib.hid (show BxL w.heap.size w [(#[.int .i64 0, .int .i64 0, .int .i64 0, .slice none 0 0, .int .i64 0, .bool false, .int .i64 0, .int .i64 0, .int .i64 0, .int .i64 0, .string ⟨#[]⟩, .slice none 0 0, .int .i64 0, .slice none 0 0, .int .i64 0], 36)] (w.alloc (.cells #[.int .i64 0, .int .i64 0, .int .i64 0, .slice none 0 0, .int .i64 0, .bool false, .int .i64 0, .int .i64 0, .int .i64 0, .int .i64 0, .string ⟨#[]⟩, .slice none 0 0, .int .i64 0, .slice none 0 0, .int .i64 0] 36)) from ((BxL.nil (Below.refl w.heap.size w)).new (by simp) #[.int .i64 0, .int .i64 0, .int .i64 0, .slice none 0 0, .int .i64 0, .bool false, .int .i64 0, .int .i64 0, .int .i64 0, .int .i64 0, .string ⟨#[]⟩, .slice none 0 0, .int .i64 0, .slice none 0 0, .int .i64 0] 36))
  obtain ⟨W0, hW0⟩ : ∃ W, W = (w.alloc (.cells #[.int .i64 0, .int .i64 0, .int .i64 0, .slice none 0 0, .int .i64 0, .bool false, .int .i64 0, .int .i64 0, .int .i64 0, .int .i64 0, .string ⟨#[]⟩, .slice none 0 0, .int .i64 0, .slice none 0 0, .int .i64 0] 36)) := ⟨_, rfl⟩
  rw [← hW0] at H0 ⊢
  clear hW0
  go_upto_region 4 with (first
    | (go_at_call 8; (refine (HFS.out _).mono ?_); rintro e w1 ⟨s, p, rfl, hp1, hs1, hb1⟩)
    | (with_reducible refine wpList_store_new rfl 36 (.tmp 7) (.tmp 15) rfl (stA s p) _ _ rfl (by kernel_rfl) (by kernel_rfl) (by kernel_rfl) (by kernel_rfl) ?_))
  have hb2 := joinB hb1 (allocB w1 (.cells (stA s p) 36))
  have H2 := Lib.hid (H0.out.step hb2)
  have HG2 := Lib.hid (heap_alloc_new w1 (.cells (stA s p) 36))
  have HP2 := Lib.hid (hp1.below (allocB w1 (.cells (stA s p) 36)))
  have HS2 := Lib.hid hs1
  have hlo : w.heap.size + 1 ≤ w1.heap.size := by have := H0.out.lt (i := 0) (by simp); have := hb1.size; omega
  obtain ⟨g, hg⟩ : ∃ g, g = w1.heap.size := ⟨_, rfl⟩
  obtain ⟨w2, hw2⟩ : ∃ W, W = w1.alloc (.cells (stA s p) 36) := ⟨_, rfl⟩
  rw [← hg, ← hw2] at HG2
  rw [← hw2] at H2 HP2
  rw [← hw2, ← hg]
  rw [← hg] at hlo
  clear hw2 hg hb1 hb2 H0 hp1 hs1 HFS
  try simp only [Act.put]
  go_upto_region 5 with (first
    | (with_reducible refine listLoad (by kernel_rfl) 36 (.tmp 7) rfl g rfl (stA s p) _ HG2.out _ Tryz.underlying36 (by kernel_rfl) (by kernel_rfl) ?_)
    | (go_at_call 21; (refine (HFO.out s p HS2.out _ HP2.out).mono ?_); rintro e w3 ⟨s3, q3, fs3, C3, rfl, hp3, hs3, ht3, hb3⟩; have H3 := Lib.hid (H2.out.step hb3); have HG3 := Lib.hid (blkOld HG2.out hb3))
    | (with_reducible refine listStore (by kernel_rfl) 36 (.tmp 7) (.tmp 26) rfl g (stA s3 q3) _ _ rfl rfl HG3.out (by kernel_rfl) (by kernel_rfl) (by kernel_rfl) ?_))
  have H4 := Lib.hid (H3.out.under (M := g) (by simp; omega) (rowB (g := g) (Nat.le_refl g) (show Below g w3 w3 from ⟨rfl, rfl, rfl, Nat.le_refl _, fun _ _ => rfl⟩) (stA s3 q3)))
  have HG4 := Lib.hid (setRow_heap _ _ _ (stA s3 q3) _ _ HG3.out)
  have HP4 := Lib.hid (hp3.other (t := 36) HG3.out (by decide) (by decide) (by decide) (stA s3 q3))
  generalize w3.setRow g (stA s3 q3) = w4 at H4 HG4 HP4 ⊢
  clear hb3 hp3 H2 HG2 H3 HG3 HP2 HFO
  try simp only [Act.put]
  go_wp2_with (first
    | (with_reducible refine listLoad (by kernel_rfl) 36 (.tmp 7) rfl g rfl (stA s3 q3) _ HG4.out _ Tryz.underlying36 (by kernel_rfl) (by kernel_rfl) ?_)
    | (with_reducible refine listStore (by kernel_rfl) 36 (.tmp 4) (.tmp 28) rfl w.heap.size (stA s3 q3) _ _ rfl rfl H4.out.get0 (by kernel_rfl) (by kernel_rfl) (by kernel_rfl) ?_))
  refine bodyPost_ret (v := .tuple #[.agg (stA s3 q3), .int .i64 1, .bool true]) (results_cell3 rfl _ _ rfl (load_whole (setRow_heap _ _ _ _ _ _ H4.out.get0) Tryz.underlying36 (by kernel_rfl) (by kernel_rfl)) rfl rfl) rfl ?_
  exact HQ.out s3 q3 fs3 C3 _ (HP4.out.other (t := 36) H4.out.get0 (by decide) (by decide) (by decide) _) hs3 ht3 (H4.out.row 0 (stA s3 q3) _ rfl).below
theorem lists_eq {l m : List Int} (h0 : l.length = m.length) (h : ∀ j (h1 : j < l.length) (h2 : j < m.length), l[j] = m[j]) : l = m := List.ext_getElem h0 fun j h1 h2 => h j h1 h2
set_option maxRecDepth 100000 in
set_option maxHeartbeats 8000000 in
theorem lsame_any (l m : List Int) (hl : l.length ≤ 1000000) (hm : m.length ≤ 1000000) (A D : Option Addr) (c d : Nat) (w : World) (h1 : Reads w A c l.length (l.flatMap numC)) (h2 : Reads w D d m.length (m.flatMap numC)) :
    Calls Tryz.prog 16 #[.slice A l.length c, .slice D m.length d] w fun e w' => e = .returned (.bool (decide (l = m))) ∧ Below w.heap.size w w' := by
  have HR := Lib.hid h1
  have HD := Lib.hid h2
  clear h1 h2
  by_cases hlm : l.length = m.length
  · have HE := Lib.hid hlm
    have hx0 : ((l.length : Int) != (m.length : Int)) = false := by rw [hlm]; exact bne_self_eq_false _
    clear hlm
    have HT := Lib.hid (fun (h : ∀ j (h1 : j < l.length) (h2 : j < m.length), l[j] = m[j]) => show decide (l = m) = true from decide_eq_true (lists_eq HE.out h))
    have HF := Lib.hid (fun j (h1 : j < l.length) (h2 : j < m.length) (hn : l[j] ≠ m[j]) => show decide (l = m) = false from decide_eq_false (fun e => hn (by subst e; rfl)))
    generalize decide (l = m) = z at HT HF ⊢
    go_enter Tryz.func16, Tryz.ntmps16
    go_wp2_with fail
    go_loopw [5] (fun x wr => ∃ j : Nat, j ≤ l.length ∧ x = .int .i64 (j : Int) ∧ (∀ i, i < j → ∀ (h1 : i < l.length) (h2 : i < m.length), l[i] = m[i]) ∧ Below w.heap.size w wr) (fun x _ => l.length - (intOf x).toNat)
    case atStart => exact ⟨0, Nat.zero_le _, rfl, fun i hi => absurd hi (by omega), Below.refl _ _⟩
    case round =>
      obtain ⟨j, hj, rfl, hall, hbw⟩ := hrel
      have HA := Lib.hid hall
      have HBW := Lib.hid hbw
      have hj0 : (0 : Int) ≤ (j : Int) := by omega
      by_cases hlt : j < l.length
      · have hlt2 : j < m.length := by rw [← HE.out]; exact hlt
        have hji : (j : Int) < (l.length : Int) := by omega
        have hji2 : (j : Int) < (m.length : Int) := by omega
        have hwj : IntKind.i64.wrap ((j : Int) + 1) = (j : Int) + 1 := IntWalk.i64_in _ (by omega)
        obtain ⟨b1, o1, rfl, hc1, hb1, hx1⟩ := read_at numC_len (HR.out.below hbw) hlt
        obtain ⟨b2, o2, rfl, hc2, hb2, hx2⟩ := read_at numC_len (HD.out.below hbw) hlt2
        have hy1 : wr.cell? ⟨b1, o1 + j, none⟩ = some (.int .i64 l[j]) := by have := hx1 0 _ rfl; simpa using this
        have hy2 : wr.cell? ⟨b2, o2 + j, none⟩ = some (.int .i64 m[j]) := by have := hx2 0 _ rfl; simpa using this
        have HN := Lib.hid (fun hn => HF.out j hlt hlt2 hn)
        have HY := Lib.hid (fun (e : l[j] = m[j]) i (hi : i < j + 1) (h1 : i < l.length) (h2 : i < m.length) => show l[i] = m[i] from by
          rcases Nat.lt_or_eq_of_le (Nat.le_of_lt_succ hi) with h3 | h3
          · exact HA.out i h3 h1 h2
          · subst h3; exact e)
        generalize l[j] = x1 at hy1 HN HY
        generalize m[j] = x2 at hy2 HN HY
        clear hx1 hx2 hc1 hc2 hb1 hb2 hall hbw HA hlt hlt2
        go_upto_region 6 with fail
        go_cut [25] (fun x wc => x = .bool (x1 != x2) ∧ Below wr.heap.size wr wc)
        case first =>
          have hSn : Below wr.heap.size wr wr.drew ∧ wr.drew.cell? ⟨b1, o1 + j, none⟩ = some (.int .i64 x1) ∧ wr.drew.cell? ⟨b2, o2 + j, none⟩ = some (.int .i64 x2) := ⟨(Below.refl _ wr).drew, hy1, hy2⟩
          refine wp_region_held_drew (S := (fun u => Below wr.heap.size wr u ∧ u.cell? ⟨b1, o1 + j, none⟩ = some (.int .i64 x1) ∧ u.cell? ⟨b2, o2 + j, none⟩ = some (.int .i64 x2))) (by kernel_rfl) ?_ (fun hHeld => ?_)
          · exact hSn
          generalize wr.drew = w8 at hSn ⊢
          refine tkW 0 (some 17) (v := ?_) rfl ?_ ?_
          rotate_left
          · intro u hSu; have hc1 := hSu.2.1; have hc2 := hSu.2.2; clear hSu; go_simp; (try with_reducible rfl)
          try simp only [Act.put, List.setIfInBounds_toArray, List.set_cons_zero, List.set_cons_succ]
          refine tkW 1 (some 18) (v := ?_) rfl ?_ ?_
          rotate_left
          · intro u hSu; have hc1 := hSu.2.1; have hc2 := hSu.2.2; clear hSu; go_simp; (try with_reducible rfl)
          try simp only [Act.put, List.setIfInBounds_toArray, List.set_cons_zero, List.set_cons_succ]
          refine tkW 2 (some 19) (v := ?_) rfl ?_ ?_
          rotate_left
          · intro u hSu; have hc1 := hSu.2.1; have hc2 := hSu.2.2; clear hSu; go_simp; (try with_reducible rfl)
          try simp only [Act.put, List.setIfInBounds_toArray, List.set_cons_zero, List.set_cons_succ]
          refine tkW 3 (some 20) (v := ?_) rfl ?_ ?_
          rotate_left
          · intro u hSu; have hc1 := hSu.2.1; have hc2 := hSu.2.2; clear hSu; go_simp; (try with_reducible rfl)
          try simp only [Act.put, List.setIfInBounds_toArray, List.set_cons_zero, List.set_cons_succ]
          refine tkW 4 (some 21) (v := ?_) rfl ?_ ?_
          rotate_left
          · intro u hSu; have hc1 := hSu.2.1; have hc2 := hSu.2.2; clear hSu; go_simp; (try with_reducible rfl)
          try simp only [Act.put, List.setIfInBounds_toArray, List.set_cons_zero, List.set_cons_succ]
          refine tkW 5 (some 22) (v := ?_) rfl ?_ ?_
          rotate_left
          · intro u hSu; have hc1 := hSu.2.1; have hc2 := hSu.2.2; clear hSu; go_simp; (try with_reducible rfl)
          try simp only [Act.put, List.setIfInBounds_toArray, List.set_cons_zero, List.set_cons_succ]
          refine tkW 6 (some 23) (v := ?_) rfl ?_ ?_
          rotate_left
          · intro u hSu; have hc1 := hSu.2.1; have hc2 := hSu.2.2; clear hSu; go_simp; (try with_reducible rfl)
          try simp only [Act.put, List.setIfInBounds_toArray, List.set_cons_zero, List.set_cons_succ]
          refine tkW 7 (some 24) (v := ?_) rfl ?_ ?_
          rotate_left
          · intro u hSu; have hc1 := hSu.2.1; have hc2 := hSu.2.2; clear hSu; go_simp; (try with_reducible rfl)
          try simp only [Act.put, List.setIfInBounds_toArray, List.set_cons_zero, List.set_cons_succ]
          refine tkW 8 (some 25) (v := ?_) rfl ?_ ?_
          rotate_left
          · intro u hSu; have hc1 := hSu.2.1; have hc2 := hSu.2.2; clear hSu; go_simp; (try with_reducible rfl)
          try simp only [Act.put, List.setIfInBounds_toArray, List.set_cons_zero, List.set_cons_succ]
          refine wpAnyH_done (by kernel_rfl) ?_ _
          clear hHeld
          go_wp2_with fail
          go_meet
          case rel => exact ⟨rfl, hSn.1⟩
        case rest =>
          obtain ⟨rfl, hbc⟩ := hcut
          have HBC := Lib.hid (joinB HBW.out hbc)
          clear hbc
          by_cases he : x1 = x2
          · have hne : (x1 != x2) = false := by rw [he]; exact bne_self_eq_false _
            have HY2 := Lib.hid (HY.out he)
            clear he HY HN
            go_wp2_with fail
            go_roundw
            case rel => exact ⟨j + 1, by omega, by go_num, HY2.out, HBC.out⟩
            case measure => simp [intOf]; omega
          · have hne : (x1 != x2) = true := bne_iff_ne.2 he
            have hz := HN.out he
            subst hz
            clear he
            go_wp2_with fail
            go_ret
            exact ⟨rfl, HBC.out⟩
      · obtain rfl : j = l.length := by omega
        have hz := HT.out (fun i h1 h2 => HA.out i h1 h1 h2)
        subst hz
        clear hall hbw
        go_wp2_with fail
        go_ret
        exact ⟨rfl, HBW.out⟩
  · have hx0 : ((l.length : Int) != (m.length : Int)) = true := bne_iff_ne.2 (by omega)
    rw [decide_eq_false (fun e => hlm (by rw [e]))]
    clear hlm
    go_enter Tryz.func16, Tryz.ntmps16
    go_wp2_with fail
    go_ret
    exact ⟨rfl, Below.refl _ _⟩
end Go.Proofs.YtmebkghdkeeobaaGreatDoor
