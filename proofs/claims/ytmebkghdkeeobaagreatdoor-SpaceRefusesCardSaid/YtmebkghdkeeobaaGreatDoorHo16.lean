import Derived.Test.YtmebkghdkeeobaaGreatDoorHo00
import Derived.Test.YtmebkghdkeeobaaGreatDoorHo15
import Derived.Test.YtmebkghdkeeobaaGreatDoorHo14
set_option maxRecDepth 100000
set_option maxHeartbeats 16000000
set_option linter.unusedSimpArgs false
namespace Go.Proofs.YtmebkghdkeeobaaGreatDoor
open Go.RowKit Sc
theorem own_one {α : Type} {enc : α → List Value} {k : Nat} {e : TypeId} {B g c : Nat} {w : World} {l : List α} (hk : ∀ x, (enc x).length = k) (ho : OwnL enc k e B w (.slice (some ⟨g, 0, none⟩) l.length c) l) (i : Nat) (hi : i < l.length) (x : α) (j : Nat) (hj : j < k) (v : Value) (hx : ∀ t, t < k → (enc x)[t]? = if t = j then some v else (enc l[i])[t]?) :
    w.frozen? ⟨g, i * k + j, none⟩ = false ∧ OwnL enc k e B (w.setCell ⟨g, i * k + j, none⟩ v) (.slice (some ⟨g, 0, none⟩) (l.set i x).length c) (l.set i x) ∧ Below B w (w.setCell ⟨g, i * k + j, none⟩ v) := by
  obtain ⟨cur, hB, hg, hh, hn, hc, hs, ht⟩ := own_blk ho
  have hle : i * k + k ≤ l.length * k := by have := Nat.mul_le_mul_right k (show i + 1 ≤ l.length from hi); rwa [Nat.add_mul, Nat.one_mul] at this
  have hlc : l.length * k ≤ c * k := Nat.mul_le_mul_right _ hn
  refine ⟨blkFrozen hh _, own_mk hk hB (blkSet (i * k + j) hh v) (by rw [List.length_set]; exact hn) hc (by rw [Array.size_setIfInBounds]; exact hs) (fun t h => ?_), (show Below B w w from ⟨rfl, rfl, rfl, Nat.le_refl _, fun _ _ => rfl⟩).setCell (p := ⟨g, i * k + j, none⟩) hB v⟩
  rw [List.length_set] at h
  rw [flat_put hk l i hi x t, Array.getElem?_setIfInBounds]
  by_cases hin : i * k ≤ t ∧ t < i * k + k
  · rw [if_pos hin]
    obtain ⟨r, rfl⟩ : ∃ r, t = i * k + r := ⟨t - i * k, by omega⟩
    rw [Nat.add_sub_cancel_left, hx r (by omega)]
    by_cases hr : r = j
    · subst hr; rw [if_pos rfl, if_pos (by omega), if_pos rfl]
    · rw [if_neg (by omega), if_neg hr, ht _ h, flat_at hk l i r hi (by omega)]
  · rw [if_neg hin, if_neg (by omega), ht t h]
def VicOut (s : Tx.St) (fs : List Fr) (w : World) (e : Ending) (w' : World) : Prop :=
  ∃ (x : Int) (q : SP) (fs' : List Fr) (k : Nat), e = .returned (.tuple #[storeV { s with hand := x } q, .int .i64 (k : Int)]) ∧ (0 ≤ x ∧ x ≤ 64) ∧ k < fs.length ∧ MkR fs fs' ∧ PoolR w' { s with hand := x } q fs' ∧ Below w.heap.size w w'
set_option maxRecDepth 100000 in
set_option maxHeartbeats 16000000 in
theorem pvictim_any {N n : Nat} (s : Tx.St) (p : SP) (fs : List Fr) (C : Nat → ByteArray) (hI : PI N n s fs C) (w : World) (h : PoolR w s p fs) :
    Calls Tryz.prog 105 #[storeV s p] w (VicOut s fs w) := by
  have hnf := hI.nf
  have hhd := hI.hd
  have HPI := Lib.hid (fun i (hi : i < fs.length) => hI.fr.pin i hi)
  have HP := Lib.hid h
  have HFN := Lib.hid h.fn
  have HCL := Lib.hid (fun W (hb : Below w.heap.size w W) => fclone_any fs (by omega) p.F p.fc W (h.fr.below hb))
  have HOK := Lib.hid (fun (x : Int) (q : SP) (fs' : List Fr) (k : Nat) w' (hx : 0 ≤ x ∧ x ≤ 64) (hk : k < fs.length) (hm : MkR fs fs') (hp : PoolR w' { s with hand := x } q fs') (hb : Below w.heap.size w w') => show VicOut s fs w (.returned (.tuple #[storeV { s with hand := x } q, .int .i64 (k : Int)])) w' from ⟨x, q, fs', k, rfl, hx, hk, hm, hp, hb⟩)
  generalize VicOut s fs w = Q at HOK ⊢
  clear h hI
  have hn0 : ((fs.length : Int) == 0) = false := beq_eq_false_iff_ne.2 (by omega)
  have hnz : (fs.length : Int) ≠ 0 := by omega
  have h0i : (0 : Int) < (fs.length : Int) := by omega
  obtain ⟨m, hm⟩ : ∃ m, m = Int.tmod s.hand (fs.length : Int) := ⟨_, rfl⟩
  have hm1 : 0 ≤ m ∧ m < (fs.length : Int) := by rw [hm]; exact ⟨Int.tmod_nonneg _ hhd.1, Int.tmod_lt_of_pos _ h0i⟩
  have hmI : Int.tmod s.hand (fs.length : Int) = m := hm.symm
  have hw0 : IntKind.i64.wrap m = m := IntWalk.i64_in _ (by omega)
  have hw1 : IntKind.i64.wrap (m + (fs.length : Int)) = m + (fs.length : Int) := IntWalk.i64_in _ (by omega)
  obtain ⟨a, ha⟩ : ∃ a : Nat, (a : Int) = Int.tmod (m + (fs.length : Int)) (fs.length : Int) := ⟨(Int.tmod (m + (fs.length : Int)) (fs.length : Int)).toNat, Int.toNat_of_nonneg (Int.tmod_nonneg _ (by omega))⟩
  have ha2 : (a : Int) < (fs.length : Int) := by rw [ha]; exact Int.tmod_lt_of_pos _ h0i
  have haI : Int.tmod (m + (fs.length : Int)) (fs.length : Int) = (a : Int) := ha.symm
  have hwa : IntKind.i64.wrap (a : Int) = (a : Int) := IntWalk.i64_in _ (by omega)
  have hw2 : IntKind.i64.wrap (2 * (fs.length : Int)) = 2 * (fs.length : Int) := IntWalk.i64_in _ (by omega)
  clear hm ha
  go_enter Tryz.func105, Tryz.ntmps105
  go_upto_region 1 with fail
  have H0 := Lib.hid (show BxL w.heap.size w [((stA s p), 36), (#[.int .i64 0, .int .i64 0, .int .i64 0, .slice none 0 0, .int .i64 0, .bool false, .int .i64 0, .int .i64 0, .int .i64 0, .int .i64 0, .string ⟨#[]⟩, .slice none 0 0, .int .i64 0, .slice none 0 0, .int .i64 0], 36)] ((w.alloc (.cells (stA s p) 36)).alloc (.cells #[.int .i64 0, .int .i64 0, .int .i64 0, .slice none 0 0, .int .i64 0, .bool false, .int .i64 0, .int .i64 0, .int .i64 0, .int .i64 0, .string ⟨#[]⟩, .slice none 0 0, .int .i64 0, .slice none 0 0, .int .i64 0] 36)) from (((BxL.nil (Below.refl w.heap.size w)).new (by simp) (stA s p) 36).new (by simp) #[.int .i64 0, .int .i64 0, .int .i64 0, .slice none 0 0, .int .i64 0, .bool false, .int .i64 0, .int .i64 0, .int .i64 0, .int .i64 0, .string ⟨#[]⟩, .slice none 0 0, .int .i64 0, .slice none 0 0, .int .i64 0] 36))
  obtain ⟨W0, hW0⟩ : ∃ W, W = ((w.alloc (.cells (stA s p) 36)).alloc (.cells #[.int .i64 0, .int .i64 0, .int .i64 0, .slice none 0 0, .int .i64 0, .bool false, .int .i64 0, .int .i64 0, .int .i64 0, .int .i64 0, .string ⟨#[]⟩, .slice none 0 0, .int .i64 0, .slice none 0 0, .int .i64 0] 36)) := ⟨_, rfl⟩
  rw [← hW0] at H0 ⊢
  clear hW0
  have hc := show W0.cell? ⟨w.heap.size, 11, none⟩ = some (.slice p.F fs.length p.fc) from by rw [blkCell H0.out.get0, ← HFN.out]; rfl
  go_upto_region 3 with (go_at_call 100; (refine (HCL.out _ H0.out.below).mono ?_); rintro e w1 ⟨v, rfl, ho, hb1⟩; obtain ⟨g, c2, rfl, hgB⟩ := ownSome ho (by omega); have H1 := Lib.hid (H0.out.step hb1); have hcx := show w1.cell? ⟨w.heap.size, 11, none⟩ = some (.slice p.F fs.length p.fc) from (by rw [blkCell H1.out.get0, ← HFN.out]; rfl); have hzx := blkFrozen H1.out.get0 11)
  have hlt : w.heap.size < W0.heap.size := by have := H0.out.lt (i := 0) (by simp); omega
  have hM : w.heap.size + 2 ≤ W0.heap.size := H0.out.lt (i := 1) (by simp)
  have H2 := Lib.hid (show BxL w.heap.size w [((stA s { p with F := some ⟨g, 0, none⟩, fn := fs.length, fc := c2 }), 36), (#[.int .i64 0, .int .i64 0, .int .i64 0, .slice none 0 0, .int .i64 0, .bool false, .int .i64 0, .int .i64 0, .int .i64 0, .int .i64 0, .string ⟨#[]⟩, .slice none 0 0, .int .i64 0, .slice none 0 0, .int .i64 0], 36)] (w1.setCell ⟨w.heap.size, 11, none⟩ (.slice (some ⟨g, 0, none⟩) fs.length c2)) from by have h := H1.out.set 0 11 (.slice (some ⟨g, 0, none⟩) fs.length c2) _ rfl; simpa using h)
  have HO2 := Lib.hid (ownSet ho ⟨w.heap.size, 11, none⟩ (.slice (some ⟨g, 0, none⟩) fs.length c2) hlt)
  generalize w1.setCell ⟨w.heap.size, 11, none⟩ (.slice (some ⟨g, 0, none⟩) fs.length c2) = w2 at H2 HO2 ⊢
  have hch := show w2.cell? ⟨w.heap.size, 12, none⟩ = some (.int .i64 s.hand) from by rw [blkCell H2.out.get0]; rfl
  clear hc hcx hzx H1 H0 HCL ho hb1
  generalize W0.heap.size = B at HO2 hgB hlt hM
  try simp only [Act.put]
  go_wp2_with fail
  go_loopw [34, 5] (fun i x wr => ∃ (k : Nat) (fs' : List Fr), k ≤ fs.length ∧ i = .int .i64 (k : Int) ∧ x = .int .i64 (((a + k) % fs'.length : Nat) : Int) ∧ Clk a k fs fs' ∧ BxL w.heap.size w [((stA s { p with F := some ⟨g, 0, none⟩, fn := fs.length, fc := c2 }), 36), (#[.int .i64 0, .int .i64 0, .int .i64 0, .slice none 0 0, .int .i64 0, .bool false, .int .i64 0, .int .i64 0, .int .i64 0, .int .i64 0, .string ⟨#[]⟩, .slice none 0 0, .int .i64 0, .slice none 0 0, .int .i64 0], 36)] wr ∧ wr.ownsRow B 80 5 (.slice (some ⟨g, 0, none⟩) fs.length c2) fs.length (fs'.flatMap frL)) (fun i _ _ => 2 * fs.length - (intOf i).toNat)
  case atStart => exact ⟨0, fs, Nat.zero_le _, rfl, by rw [Nat.add_zero, Nat.mod_eq_of_lt (by omega)], clk_new a fs, H2.out, HO2.out⟩
  case round =>
    obtain ⟨k, fs', hk, rfl, rfl, hclk, hbx, how⟩ := hrel
    have hl := hclk.mr.len
    have hk0 : (0 : Int) ≤ (k : Int) := by omega
    have hki : (k : Int) < 2 * (fs.length : Int) := by omega
    have hwk : IntKind.i64.wrap ((k : Int) + 1) = (k : Int) + 1 := IntWalk.i64_in _ (by omega)
    have hq : (a + k) % fs'.length < fs'.length := Nat.mod_lt _ (by omega)
    have hnx := clk_next a k fs'.length
    have hq2 : (a + (k + 1)) % fs'.length < fs'.length := Nat.mod_lt _ (by omega)
    have hqm := fun (h1 : k = fs.length) => hclk.round' (by omega) hl.symm h1 hq
    have ho2 : OwnL frL 5 80 B wr (.slice (some ⟨g, 0, none⟩) fs'.length c2) fs' := by unfold OwnL; rw [hl]; exact how
    have HCK := Lib.hid (fun (hq : (a + k) % fs'.length < fs'.length) => hclk.step hq)
    have HMR := Lib.hid hclk.mr
    have HBX := Lib.hid hbx
    have HO := Lib.hid ho2
    have hpin : fs'[(a + k) % fs'.length].pins = 0 := by rw [hclk.mr.at_ _ (by omega) hq]; exact HPI.out _ (by omega)
    have htm : Int.tmod ((((a + k) % fs'.length : Nat) : Int) + 1) (fs.length : Int) = (((a + (k + 1)) % fs'.length : Nat) : Int) := by
      rw [← hnx, ← hl]
      exact Int.tmod_eq_emod_of_nonneg (by omega)
    generalize hqe : (a + k) % fs'.length = q at hq hqm hpin htm HCK
    generalize hne : (a + (k + 1)) % fs'.length = n2 at hq2 htm ⊢
    have HNE := Lib.hid hne
    clear hne
    obtain ⟨b, off, hbe, hca, hbl, hcell⟩ := read_at frL_len (own_reads ho2) hq
    injection hbe with hbe
    injection hbe with hb1 hb2 _
    subst hb1 hb2
    rw [Nat.zero_add] at hcell
    have HCE := Lib.hid (show wr.rangeAt g (q * 5) (frL fs'[q]) from hcell)
    obtain ⟨f, hfe⟩ : ∃ f, f = fs'[q] := ⟨_, rfl⟩
    rw [← hfe] at HCE hqm hpin
    have HFE := Lib.hid hfe
    have HL := Lib.hid hl
    have hqi0 : (0 : Int) ≤ (q : Int) := by omega
    have hqi : (q : Int) < (fs.length : Int) := by omega
    have hwq : IntKind.i64.wrap ((q : Int) + 1) = (q : Int) + 1 := IntWalk.i64_in _ (by omega)
    have hwn : IntKind.i64.wrap (n2 : Int) = (n2 : Int) := IntWalk.i64_in _ (by omega)
    have HN2 := Lib.hid (show (0 : Int) ≤ (n2 : Int) ∧ (n2 : Int) ≤ 64 from by omega)
    clear hclk hbx how ho2 hcell hca hnx hfe hl hbl
    go_upto_region 9 with (first
      | (refine listWants (by kernel_rfl) fun K hK => wp_load_mid 80 (.tmp 38) rfl g (q * 5) rfl (frL f) _ HCE.out Tryz.underlying80 (by kernel_rfl) (by kernel_rfl) (hK _ _ ?_))
      | (with_reducible refine wpList_store_new rfl 80 (.tmp 6) (.tmp 39) rfl (frA f) _ _ rfl (by kernel_rfl) (by kernel_rfl) (by kernel_rfl) (by kernel_rfl) ?_))
    have H5 := Lib.hid (HBX.out.step (allocB wr (.cells (frA f) 80)))
    have HG5 := Lib.hid (heap_alloc_new wr (.cells (frA f) 80))
    have HO5 := Lib.hid (ownBelow HO.out (allocB wr (.cells (frA f) 80)))
    obtain ⟨g6, hg⟩ : ∃ g6, g6 = wr.heap.size := ⟨_, rfl⟩
    obtain ⟨w5, hw5⟩ : ∃ W, W = wr.alloc (.cells (frA f) 80) := ⟨_, rfl⟩
    rw [← hg, ← hw5] at HG5
    rw [← hw5] at H5 HO5
    rw [← hw5, ← hg]
    clear hw5 hg HBX HCE HO
    try simp only [Act.put]
    have hcp := show w5.cell? ⟨g6, 2, none⟩ = some (.int .i64 0) from by rw [blkCell HG5.out, ← hpin]; rfl
    cases hmk : f.mark with
    | false =>
      have hcm := show w5.cell? ⟨g6, 3, none⟩ = some (.bool false) from by rw [blkCell HG5.out, ← hmk]; rfl
      have hcx := show w5.cell? ⟨w.heap.size, 12, none⟩ = some (.int .i64 s.hand) from by rw [blkCell H5.out.get0]; rfl
      have hzx := blkFrozen H5.out.get0 12
      clear hmk hpin hqm
      go_upto_region 12 with fail
      have H6 := Lib.hid (show BxL w.heap.size w [((stA { s with hand := ((n2 : Nat) : Int) } { p with F := some ⟨g, 0, none⟩, fn := fs.length, fc := c2 }), 36), (#[.int .i64 0, .int .i64 0, .int .i64 0, .slice none 0 0, .int .i64 0, .bool false, .int .i64 0, .int .i64 0, .int .i64 0, .int .i64 0, .string ⟨#[]⟩, .slice none 0 0, .int .i64 0, .slice none 0 0, .int .i64 0], 36)] (w5.setCell ⟨w.heap.size, 12, none⟩ (.int .i64 (n2 : Int))) from by have h := H5.out.set 0 12 (.int .i64 (n2 : Int)) _ rfl; simpa using h)
      have HO6 := Lib.hid (ownSet HO5.out ⟨w.heap.size, 12, none⟩ (.int .i64 (n2 : Int)) hlt)
      generalize w5.setCell ⟨w.heap.size, 12, none⟩ (.int .i64 (n2 : Int)) = w6 at H6 HO6 ⊢
      clear hcp hcm hcx hzx
      go_wp2_with (first | (with_reducible refine listLoad (by kernel_rfl) 36 (.tmp 1) rfl w.heap.size rfl (stA { s with hand := ((n2 : Nat) : Int) } { p with F := some ⟨g, 0, none⟩, fn := fs.length, fc := c2 }) _ H6.out.get0 _ Tryz.underlying36 (by kernel_rfl) (by kernel_rfl) ?_) | (with_reducible refine listStore (by kernel_rfl) 36 (.tmp 2) (.tmp 56) rfl (w.heap.size + 1) (stA { s with hand := ((n2 : Nat) : Int) } { p with F := some ⟨g, 0, none⟩, fn := fs.length, fc := c2 }) _ _ rfl rfl H6.out.get1 (by kernel_rfl) (by kernel_rfl) (by kernel_rfl) ?_))
      refine bodyPost_ret (v := .tuple #[.agg (stA { s with hand := ((n2 : Nat) : Int) } { p with F := some ⟨g, 0, none⟩, fn := fs.length, fc := c2 }), .int .i64 (q : Int)]) (results_cell2 rfl _ _ rfl (load_whole (setRow_heap _ _ _ _ _ _ H6.out.get1) Tryz.underlying36 (by kernel_rfl) (by kernel_rfl)) rfl) rfl ?_
      have HB := (H6.out.row 1 (stA { s with hand := ((n2 : Nat) : Int) } { p with F := some ⟨g, 0, none⟩, fn := fs.length, fc := c2 }) _ rfl).below
      have hq3 := HP.out.below HB
      have hO4 := ownRowOff HO6.out (w.heap.size + 1) (stA { s with hand := ((n2 : Nat) : Int) } { p with F := some ⟨g, 0, none⟩, fn := fs.length, fc := c2 }) (by omega)
      have hl := HL.out
      refine HOK.out (n2 : Int) { p with F := some ⟨g, 0, none⟩, fn := fs.length, fc := c2 } fs' q _ HN2.out (by omega) HMR.out ⟨⟨hq3.st.dk, hq3.st.dt, hq3.st.tx, hq3.st.tt⟩, hl.symm, ?_, (NewT.own hO4).mono (Nat.zero_le _)⟩ HB
      rw [hl]
      rw [hl] at hO4
      exact own_reads hO4
    | true =>
      have hcm := show w5.cell? ⟨g6, 3, none⟩ = some (.bool true) from by rw [blkCell HG5.out, ← hmk]; rfl
      have hkn : k ≠ fs.length := fun e => by have := hqm e; rw [hmk] at this; cases this
      obtain ⟨hzx, hop, hbp⟩ := own_one frL_len HO5.out q hq { fs'[q] with mark := false } 3 (by decide) (.bool false) (by
        intro t ht
        have : t = 0 ∨ t = 1 ∨ t = 2 ∨ t = 3 ∨ t = 4 := by omega
        rcases this with rfl | rfl | rfl | rfl | rfl <;> rfl)
      have hcx : w5.cell? ⟨g, q * 5 + 3, none⟩ = some (.bool true) := by
        obtain ⟨b, off, hbe, _, _, hcell⟩ := read_at frL_len (own_reads HO5.out) hq
        injection hbe with hbe
        injection hbe with hb1 hb2 _
        subst hb1 hb2
        have h3 := hcell 3 (.bool true) (by rw [← HFE.out, ← hmk]; rfl)
        rw [Nat.zero_add] at h3
        exact h3
      clear hmk hpin hqm
      go_upto_region 15 with fail
      have H6 := Lib.hid (H5.out.under (M := B) (by simp; omega) hbp)
      have HO6 := Lib.hid hop
      generalize w5.setCell ⟨g, q * 5 + 3, none⟩ (.bool false) = w6 at H6 HO6 ⊢
      clear hcp hcm hcx hzx hop hbp
      try simp only [Act.put]
      go_wp2_with fail
      go_roundw
      case rel =>
        have hc6 := HCK.out hq
        have h6 := HO6.out
        generalize hF : fs'.set q { fs'[q] with mark := false } = F2 at hc6 h6
        have hl2 : F2.length = fs'.length := by rw [← hF, List.length_set]
        have hl3 := hc6.mr.len
        unfold OwnL at h6
        rw [hl3] at h6
        exact ⟨k + 1, F2, by omega, by go_num, by rw [hl2, HNE.out], hc6, H6.out, h6⟩
      case measure => simp [intOf]; omega
end Go.Proofs.YtmebkghdkeeobaaGreatDoor
