import Derived.Test.YtmebkghdkeeobaaGreatDoorHo00
import Derived.Test.YtmebkghdkeeobaaGreatDoorHo09
import Derived.Test.YtmebkghdkeeobaaGreatDoorHo07
set_option maxRecDepth 100000
set_option maxHeartbeats 16000000
set_option linter.unusedSimpArgs false
namespace Go.Proofs.YtmebkghdkeeobaaGreatDoor
open Go.RowKit
theorem info_str : (Tryz.prog.info? 9).map (fun i => (i.zero, i.size, i.bytes)) = some (some (.string ⟨#[]⟩), 1, 16) := by kernel_rfl
def rcells (b : ByteArray) (n m : Nat) : List Value := List.replicate m (.string b) ++ List.replicate (n - m) (.string ⟨#[]⟩)
theorem rcells_len (b : ByteArray) (n m : Nat) (h : m ≤ n) : (rcells b n m).length = n := by unfold rcells; simp; omega
theorem rcells_at (b : ByteArray) (n m j : Nat) (hj : j < m) : (rcells b n m).toArray[j]? = some (.string b) := by
  unfold rcells
  rw [List.getElem?_toArray, List.getElem?_append_left (by simpa using hj), List.getElem?_replicate, if_pos hj]
theorem rcells_more (b : ByteArray) (n m k : Nat) (h : m + k ≤ n) : splice (rcells b n m) m (List.replicate k (.string b)) = rcells b n (m + k) := by
  unfold splice rcells
  rw [List.take_left' (by simp), List.drop_append, List.length_replicate, List.length_replicate, List.drop_of_length_le (by simp), List.nil_append, ← List.append_assoc, List.replicate_append_replicate, List.drop_replicate]
  congr 2
  omega
theorem make_strs (n : Nat) (hn : n ≤ 4096) (W : World) : (Instr.makeSlice 26 (.int .i64 (n : Int)) (.int .i64 (n : Int))).run Tryz.prog W = .ok (.slice (some ⟨W.heap.size, 0, none⟩) n n) (W.alloc (.cells (madeCells #[Value.string ⟨#[]⟩] n) 9)) := by
  obtain ⟨i0, hi, hz0, hz1, hz2⟩ := info_parts info_str
  have h := run_make (P := Tryz.prog) W 26 9 i0 (.string ⟨#[]⟩) Tryz.underlying26 hi hz0 .i64 .i64 n n (by omega) (by omega) (by rw [hz2]; omega) (by omega)
  rw [hz1, Int.toNat_natCast, Nat.mul_one] at h
  exact h
theorem made_strs (b : ByteArray) (n : Nat) : madeCells #[Value.string ⟨#[]⟩] n = (rcells b n 0).toArray := by
  unfold madeCells rcells
  apply Array.ext_getElem?
  intro i
  by_cases hi : i < n
  · simp [hi, Nat.mod_one]
  · simp [hi]
set_option maxRecDepth 100000 in
set_option maxHeartbeats 8000000 in
theorem srepeat_any (b : ByteArray) (n : Nat) (h1 : 1 ≤ n) (hn : n ≤ 4000) (g0 : Nat) (w : World) (hx : w.heap[g0]? = some (.cells #[.string b] 9 (0, 0))) :
    Calls Tryz.prog 46 #[.slice (some ⟨g0, 0, none⟩) 1 1, .int .i64 (n : Int)] w fun e w' => ∃ v, e = .returned v ∧ OwnL strC 1 9 w.heap.size w' v (List.replicate n b) ∧ Below w.heap.size w w' := by
  have HMU := Lib.hid (fun W => show Calls Tryz.prog 77 #[.int .u64 1, .int .u64 (n : Int)] W fun e w' => e = .returned (.tuple #[.int .u64 0, .int .u64 (n : Int)]) ∧ w' = W from by
    have h := Tryz.bits_Mul 1 n (by omega) (by omega) W
    rw [show 1 * n / 18446744073709551616 = 0 by omega, show 1 * n % 18446744073709551616 = n by omega] at h
    exact h)
  have hmk := fun W => make_strs n (by omega) W
  rw [made_strs b n] at hmk
  have hn0 : ¬ (n : Int) < 0 := by omega
  have hX := Lib.hid hx
  have hnI : ¬ (9223372036854775807 : Int) < (n : Int) := by omega
  have hw1 : IntKind.u64.wrap (n : Int) = (n : Int) := IntWalk.u64_in _ (by omega)
  have hw2 : IntKind.i64.wrap (n : Int) = (n : Int) := IntWalk.i64_in _ (by omega)
  clear hx
  go_enter Tryz.func46, Tryz.ntmps46
  go_upto_region 7 with (go_at_call 77; (with_reducible refine (HMU.out _).mono ?_); rintro e w1 ⟨rfl, hww⟩; have hw9 := hww.symm; subst hw9; clear hww)
  have HX1 := Lib.hid (blkOld hX.out (allocB w (.cells (rcells b n 0).toArray 9)))
  have HSZ := Lib.hid (show (Tryz.prog.info? 9).map (·.size) = some 1 from by kernel_rfl)
  have hsp1 : splice (rcells b n 0) 0 [.string b] = rcells b n 1 := rcells_more b n 0 1 (by omega)
  obtain ⟨g, hg⟩ : ∃ g, g = w.heap.size := ⟨_, rfl⟩
  clear hmk HMU hX
  have hcp : ∀ ty, (Builtin.copy_ #[26, 26] ty #[.slice (some ⟨w.heap.size, 0, none⟩) n n, .slice (some ⟨g0, 0, none⟩) 1 1]).run Tryz.prog (w.alloc (.cells (rcells b n 0).toArray 9)) = .ok (.int .i64 1) ((w.alloc (.cells (rcells b n 0).toArray 9)).setRow w.heap.size (rcells b n 1).toArray) := fun ty => by
    have h := run_copy_row (P := Tryz.prog) (w.alloc (.cells (rcells b n 0).toArray 9)) 26 26 ty 9 w.heap.size 0 n n ⟨g0, 0, none⟩ 1 1 (rcells b n 0).toArray 9 [.string b] Tryz.underlying26 HSZ.out (heap_alloc_new w _) (by show 1 = min 1 n; omega) (fun j v hj => by
      have hj0 : j = 0 := by have := (List.getElem?_eq_some_iff.1 hj).1; simpa using this
      subst hj0
      rw [Addr.add_mid, blkCell HX1.out]; simpa using hj) (by have := rcells_len b n 0 (by omega); simp [this]; omega) (fun v hv => by rw [List.mem_singleton.1 hv]; rfl)
    rw [← hsp1]
    unfold splice
    simp only [List.append_assoc] at h
    exact h
  have hg2 : Hid (((w.alloc (.cells (rcells b n 0).toArray 9)).setRow w.heap.size (rcells b n 1).toArray).heap[g]? = some (.cells (rcells b n 1).toArray 9 (0, 0))) := Lib.hid (by rw [hg]; exact setRow_heap _ _ _ _ _ _ (heap_alloc_new w _))
  have hb2 : Below w.heap.size w ((w.alloc (.cells (rcells b n 0).toArray 9)).setRow w.heap.size (rcells b n 1).toArray) := below_setRow (allocB w _) (Nat.le_refl _) _
  have HG := Lib.hid hg
  go_upto_block 0 with fail
  obtain ⟨w2, hw2⟩ : ∃ W, W = (w.alloc (.cells (rcells b n 0).toArray 9)).setRow w.heap.size (rcells b n 1).toArray := ⟨_, rfl⟩
  rw [← hw2] at hg2 hb2
  rw [← hw2, ← hg]
  clear hsp1 hg HX1 hcp hw2
  go_wp2_with fail
  go_loopw [8] (fun i wr => ∃ m : Nat, i = .int .i64 (m : Int) ∧ 1 ≤ m ∧ m ≤ n ∧ Hid (wr.heap[g]? = some (.cells (rcells b n m).toArray 9 (0, 0))) ∧ Below w.heap.size w wr) (fun i _ => n - (intOf i).toNat)
  case atStart => exact ⟨1, rfl, Nat.le_refl _, h1, hg2, hb2⟩
  case round =>
    obtain ⟨m, rfl, hm1, hmn, hgm, hbm⟩ := hrel
    have HB := Lib.hid hbm
    clear hbm hg2 hb2
    by_cases hlt : m < n
    · have hltI : (m : Int) < (n : Int) := by omega
      have hne : ¬ n = m := by omega
      have hmI : (m : Int) ≤ (n : Int) := by omega
      have hm0 : (0 : Int) ≤ (m : Int) := by omega
      obtain ⟨k, hk⟩ : ∃ k, k = min m (n - m) := ⟨_, rfl⟩
      have HK := Lib.hid hk
      have hwk : IntKind.i64.wrap ((m : Int) + (k : Int)) = ((m + k : Nat) : Int) := by rw [Int.natCast_add]; exact IntWalk.i64_in _ (by omega)
      have HSP := Lib.hid (rcells_more b n m k (by omega))
      have HMN := Lib.hid hmn
      have HM1 := Lib.hid hm1
      clear hk hm1 hmn
      go_upto_region 9 with fail
      refine wp_region_held_drew (S := (fun _ => True)) (by kernel_rfl) ?_ (fun hHeld => ?_)
      · trivial
      refine tkW 0 (some 38) (v := ?_) rfl ?_ (tkW 1 (some 39) (v := ?_) rfl ?_ (tkW 2 (some 40) (v := ?_) rfl ?_ (tkW 3 (some 41) (v := ?_) rfl ?_ (tkW 4 (some 42) (v := ?_) rfl ?_ (tkW 5 (some 43) (v := ?_) rfl ?_ (tkW 6 (some 44) (v := ?_) rfl ?_ ?_))))))
      iterate 7 (rotate_left; focus (intro u hSu; clear hSu; go_simp; (try with_reducible rfl)))
      try simp only [Act.put, pS]
      refine rdH 7 (some 45) rfl (fun K hK => ?_)
      refine step_copy_splice rfl (.tmp 41) (.tmp 44) 26 26 rfl 9 Tryz.underlying26 HSZ.out (some ⟨g, m, none⟩) (some ⟨g, 0, none⟩) (n - m) (n - m) m n rfl rfl g m (rcells b n m) 9 hgm.out (List.replicate k (.string b)) (by rw [List.length_replicate]; exact HK.out) (fun _ => ⟨rfl, _, rfl, fun j v hj => by (have hj0 : j < k := by (have := (List.getElem?_eq_some_iff.1 hj).1; simpa using this)); rw [Addr.add_mid, blkCell (show wr.drew.heap[g]? = _ from hgm.out)]; (have := HK.out); rw [rcells_at b n m (0 + j) (by omega)]; rw [List.getElem?_replicate, if_pos hj0] at hj; exact hj⟩) (by rw [rcells_len _ _ _ HMN.out, List.length_replicate]; have := HK.out; omega) (fun v hv => by rw [(List.mem_replicate.1 hv).2]; rfl) w.heap.size w HB.out.drew (by rw [HG.out]; exact Nat.le_refl _) ?_
      intro w5 hg5 hb5
      rw [HSP.out] at hg5
      rw [List.length_replicate]
      refine hK.out _ _ ?_ (fun hHeld => ?_)
      · trivial
      clear hK K
      try simp only [Act.put, pS]
      refine tkW 8 (some 46) (v := ?_) rfl ?_ (tkW 9 (some 8) (v := ?_) rfl ?_ ?_)
      iterate 2 (rotate_left; focus (intro u hSu; clear hSu; go_simp; (try with_reducible rfl)))
      try simp only [Act.put, pS]
      refine wpAnyH_done (by kernel_rfl) ?_ _
      clear hHeld
      go_wp2_with fail
      go_roundw
      case rel => exact ⟨m + k, (by go_num), by have := HM1.out; omega, by have := HK.out; omega, hg5, hb5⟩
      case measure => have := HK.out; have := HM1.out; simp [intOf]; omega
    · obtain rfl : m = n := by omega
      have hne : ¬ (m : Int) < (m : Int) := by omega
      have HF := Lib.hid (show OwnL strC 1 9 w.heap.size wr (.slice (some ⟨g, 0, none⟩) m m) (List.replicate m b) from by
        unfold OwnL
        rw [List.length_replicate]
        refine ⟨by rw [flat_len strC_len, List.length_replicate], .inr ⟨g, m, _, rfl, by rw [HG.out]; exact Nat.le_refl _, hgm.out, Nat.le_refl _, Nat.le_trans hn (by decide), by rw [← Array.length_toList]; simp [rcells_len], ?_⟩⟩
        rw [strC_map]
        unfold rcells
        simp)
      go_wp2_with fail
      go_ret
      exact ⟨_, rfl, HF.out, HB.out⟩
def CNewOut (d : Lg.Dk) (w : World) (e : Ending) (w' : World) : Prop :=
  ∃ A c, e = .returned (.tuple #[diskV d A c, .int .i64 0]) ∧ DiskR w' d A c ∧ NewT w.heap.size w' 9 A ∧ Below w.heap.size w w'
set_option maxRecDepth 100000 in
set_option maxHeartbeats 8000000 in
theorem cnew_any (n : Nat) (h1 : 1 ≤ n) (hn : n ≤ 4000) (w : World) :
    Calls Tryz.prog 22 #[.int .i64 (n : Int)] w (CNewOut (Lg.newD n) w) := by
  have hz : (⟨(Go.Lib.repeatL (⟨#[0]⟩ : ByteArray).data.toList 128).toArray⟩ : ByteArray) = Lg.zero128 := Lg.repeat_zero 128
  have HZ := Lib.hid (fun W => show Calls Tryz.prog 45 #[.string ⟨#[0]⟩, .int .i64 128] W fun e w' => e = .returned (.string Lg.zero128) ∧ Below W.heap.size W w' from by
    have h := Tryz.strings_Repeat ⟨#[0]⟩ 128 W (by omega) (show (⟨#[0]⟩ : ByteArray).size * 128 ≤ 140737488355328 from (by show 1 * 128 ≤ _; omega))
    rw [hz] at h
    exact h)
  clear hz
  have HR := Lib.hid (fun g W h => srepeat_any Lg.zero128 n h1 hn g W h)
  have HF := Lib.hid (fun A c w' (hr : Reads w' A c n ((List.replicate n Lg.zero128).flatMap strC)) (ht : NewT w.heap.size w' 9 A) (hb : Below w.heap.size w w') => show CNewOut (Lg.newD n) w (.returned (.tuple #[.agg #[.slice A n c, .int .i64 (-1), .bool false], .int .i64 0])) w' from by
    refine ⟨A, c, ?_, ⟨?_, ?_⟩, ht, hb⟩
    · unfold diskV Lg.newD; simp
    · unfold Lg.newD; simpa using hr
    · unfold Lg.newD; simp; omega)
  generalize Lg.zero128 = z at HZ HR HF
  generalize CNewOut (Lg.newD n) w = Q at HF ⊢
  have h1' : ¬ (n : Int) < 1 := by omega
  have h2' : ¬ 65536 < (n : Int) := by omega
  go_enter Tryz.func22, Tryz.ntmps22
  go_upto_region 1 with fail
  have H0 := Lib.hid (show BxL w.heap.size w [(#[.slice none 0 0, .int .i64 0, .bool false], 28)] (w.alloc (.cells #[.slice none 0 0, .int .i64 0, .bool false] 28)) from ((BxL.nil (Below.refl w.heap.size w)).new (by simp) #[.slice none 0 0, .int .i64 0, .bool false] 28))
  obtain ⟨W0, hW0⟩ : ∃ W, W = (w.alloc (.cells #[.slice none 0 0, .int .i64 0, .bool false] 28)) := ⟨_, rfl⟩
  rw [← hW0] at H0 ⊢
  clear hW0
  go_upto_region 4 with (go_at_call 45; (with_reducible refine (HZ.out _).mono ?_); rintro e w1 ⟨rfl, hb1⟩)
  have H1 := Lib.hid (H0.out.step (pastAlloc (o := .cells #[.string z] 9) hb1))
  have HX := Lib.hid (heap_alloc_new w1 (.cells #[.string z] 9))
  have HRR := Lib.hid (HR.out w1.heap.size (w1.alloc (.cells #[.string z] 9)) HX.out)
  go_wp2_with (first
    | (go_at_call 46; (with_reducible refine HRR.out.mono ?_); rintro e w2 ⟨v, rfl, ho, hb2⟩; obtain ⟨A, c, hv⟩ := ownLen ho; rw [List.length_replicate] at hv; subst hv; have H2 := Lib.hid (H1.out.step hb2))
    | (with_reducible refine listStore (by kernel_rfl) 28 (.tmp 2) (.tmp 17) rfl w.heap.size #[.slice A n c, .int .i64 (-1), .bool false] _ _ rfl rfl H2.out.get0 (by kernel_rfl) (by kernel_rfl) (by kernel_rfl) ?_))
  refine bodyPost_ret (v := .tuple #[.agg #[.slice A n c, .int .i64 (-1), .bool false], .int .i64 0]) (results_cell2 rfl _ _ rfl (load_whole (setRow_heap _ _ _ _ _ _ H2.out.get0) Tryz.underlying28 (by kernel_rfl) (by kernel_rfl)) rfl) rfl ?_
  have ho2 := ho
  unfold OwnL at ho2
  rw [List.length_replicate] at ho2
  have hsz : w.heap.size ≤ (w1.alloc (.cells #[.string z] 9)).heap.size := by simp; have := hb1.size; have := H0.out.below.size; omega
  have ht := NewT.own ho2
  exact HF.out A c _ (ht.readsRow (own_reads ho2) H2.out.get0 (by decide) _) ((ht.row _ _).mono hsz) (by have h := (H2.out.row 0 #[.slice A n c, .int .i64 (-1), .bool false] _ rfl).below; simpa using h)
end Go.Proofs.YtmebkghdkeeobaaGreatDoor
