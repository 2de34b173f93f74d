import Derived.Test.YtmebkghdkeeobaaGreatDoorHo00
import Derived.Test.YtmebkghdkeeobaaGreatDoorHo15
import Derived.Test.YtmebkghdkeeobaaGreatDoorHo14
import Derived.Test.YtmebkghdkeeobaaGreatDoorHo08
import Derived.Test.YtmebkghdkeeobaaGreatDoorHo02
import Derived.Test.YtmebkghdkeeobaaGreatDoorHo16
set_option maxRecDepth 100000
set_option maxHeartbeats 16000000
set_option linter.unusedSimpArgs false
namespace Go.Proofs.YtmebkghdkeeobaaGreatDoor
open Go.RowKit Sc
theorem PI.logB {N n : Nat} {s : Tx.St} {fs : List Fr} {C : Nat → ByteArray} (h : PI N n s fs C) : Tx.LogB s := by
  obtain ⟨r1, r2, hv⟩ := h.pw.inv
  exact Tx.logB_of hv (by have := h.n1.2.2; omega)
def FlOut (N n : Nat) (C : Nat → ByteArray) (s : Tx.St) (fs : List Fr) (k : Nat) (w : World) (e : Ending) (w' : World) : Prop :=
  ∃ (d : Lg.Dk) (l : Lg.Lo) (q : SP) (fs' : List Fr), e = .returned (.tuple #[storeV { s with disk := d, log := l } q, .int .i64 0]) ∧ PoolR w' { s with disk := d, log := l } q fs' ∧ PI N n { s with disk := d, log := l } fs' C ∧ Hk s { s with disk := d, log := l } fs fs' ∧ Pgs fs fs' ∧ (∃ h : k < fs'.length, fs'[k].rc = 0) ∧ Below w.heap.size w w'
set_option maxRecDepth 100000 in
set_option maxHeartbeats 16000000 in
theorem pflush_any {N n : Nat} (s : Tx.St) (p : SP) (fs : List Fr) (C : Nat → ByteArray) (hI : PI N n s fs C) (k : Nat) (hk : k < fs.length) (hfull : Full fs[k]) (w : World) (h : PoolR w s p fs) :
    Calls Tryz.prog 106 #[storeV s p, .int .i64 (k : Int)] w (FlOut N n C s fs k w) := by
  have HP := Lib.hid h
  have HFN := Lib.hid h.fn
  have hfl : fs.length ≤ 100 := by have := hI.nf; omega
  have hb := hI.logB
  have hpw := hI.pw
  have HFO := Lib.hid (fun W (hb1 : Below w.heap.size w W) => force_any s.disk (by rw [hpw.left]; decide) p.A p.c s.log hb.e0 (by have := hb.e1; omega) (by have := hb.n0; omega) (by have := hb.n1; omega) (by have := hb.f; omega) (by have := hb.f; omega) (by have := hb.t0; have := hb.e1; omega) hb.t0 hb.t1 W (h.st.dk.below hb1))
  obtain ⟨d2, l2, ef, hI2, he2⟩ := hI.force
  rw [ef] at HFO
  clear ef hb
  obtain ⟨pg, hpn, hpp, hpb⟩ := hI.fr.at_ k hk hfull
  have HSM := Lib.hid (fun W (hb1 : Below w.heap.size w W) (hr0 : fs[k].rc = 0) => show FlOut N n C s fs k w (.returned (.tuple #[storeV s p, .int .i64 0])) W from ⟨s.disk, s.log, p, fs, rfl, h.below hb1, hI, Hk.refl s fs, Pgs.refl fs, ⟨hk, hr0⟩, hb1⟩)
  have HFI := Lib.hid (fun (w' : World) (q : SP) (hp : PoolR w' { s with disk := putP d2 (1 + N + 4 * pg) (sealB (C pg)), log := l2 } q (fs.set k { fs[k] with rc := 0 })) (hb1 : Below w.heap.size w w') => show FlOut N n C s fs k w (.returned (.tuple #[storeV { s with disk := putP d2 (1 + N + 4 * pg) (sealB (C pg)), log := l2 } q, .int .i64 0])) w' from ⟨_, _, q, _, rfl, hp, hI2.flush hk hpn hfull hpp, ⟨rfl, rfl, he2, rfl, List.length_set⟩, Pgs.set fs k hk _ rfl rfl, ⟨by rw [List.length_set]; exact hk, by rw [List.getElem_set_self]⟩, hb1⟩)
  have HSE := Lib.hid (fun W => psector_any { s with disk := d2, log := l2 } p N pg hI2.zl hI2.n1.2.2 (by have := hI2.n1; omega) W)
  have HSA := Lib.hid (fun A c W => psector_any { s with disk := d2, log := l2 } { p with A := A, c := c } N pg hI2.zl hI2.n1.2.2 (by have := hI2.n1; omega) W)
  have HSL := Lib.hid (fun W => pseal_any (C pg) (by have := (hI2.nm pg hpn).size; omega) W)
  have hbz := (sealB_is (hI2.nm pg hpn).is).2.2.2
  have HWP := Lib.hid (fun A c W (hr : DiskR W d2 A c) (ht : NewT 0 W 9 A) => cwritepage_any d2 hI2.pw A c (1 + N + 4 * pg) (by omega) (by omega) (by have := hI2.n1; omega) (sealB (C pg)) hbz W hr ht)
  generalize putP d2 (1 + N + 4 * pg) (sealB (C pg)) = d3 at HFI HWP
  generalize sealB (C pg) = z at HSL HWP
  generalize 1 + N + 4 * pg = at_ at HSE HSA HWP
  generalize FlOut N n C s fs k w = Q at HSM HFI ⊢
  have hfb := hI.bytes hk hfull hpp
  obtain ⟨b, off, hpF, hcc, hbl, hcell⟩ := read_at frL_len h.fr hk
  generalize hfe : fs[k] = f at hcell HSM HFI hfb hpp
  have HBL := Lib.hid hbl
  have HCE := Lib.hid (fun u (hu : Below w.heap.size w u) => show u.rangeAt b (off + k * 5) (frL f) from fun i v hv => by rw [hu.cell (p := ⟨b, off + k * 5 + i, none⟩) hbl]; exact hcell i v hv)
  have HPF := Lib.hid hpF
  have hki0 : (0 : Int) ≤ (k : Int) := by omega
  have hki : (k : Int) < (fs.length : Int) := by omega
  have HFP := Lib.hid hpp
  have HFB := Lib.hid hfb.2
  clear h hI hI2 he2 hfe hcell hcc hbl hpF hpw hpn hpp hpb hfull hbz hfb HSE
  go_enter Tryz.func106, Tryz.ntmps106
  go_upto_region 1 with fail
  have H0 := Lib.hid (show BxL w.heap.size w [((stA s p), 36), (#[.int .i64 0, .int .i64 0, .int .i64 0, .slice none 0 0, .int .i64 0, .bool false, .int .i64 0, .int .i64 0, .int .i64 0, .int .i64 0, .string ⟨#[]⟩, .slice none 0 0, .int .i64 0, .slice none 0 0, .int .i64 0], 36)] ((w.alloc (.cells (stA s p) 36)).alloc (.cells #[.int .i64 0, .int .i64 0, .int .i64 0, .slice none 0 0, .int .i64 0, .bool false, .int .i64 0, .int .i64 0, .int .i64 0, .int .i64 0, .string ⟨#[]⟩, .slice none 0 0, .int .i64 0, .slice none 0 0, .int .i64 0] 36)) from (((BxL.nil (Below.refl w.heap.size w)).new (by simp) (stA s p) 36).new (by simp) #[.int .i64 0, .int .i64 0, .int .i64 0, .slice none 0 0, .int .i64 0, .bool false, .int .i64 0, .int .i64 0, .int .i64 0, .int .i64 0, .string ⟨#[]⟩, .slice none 0 0, .int .i64 0, .slice none 0 0, .int .i64 0] 36))
  obtain ⟨W0, hW0⟩ : ∃ W, W = ((w.alloc (.cells (stA s p) 36)).alloc (.cells #[.int .i64 0, .int .i64 0, .int .i64 0, .slice none 0 0, .int .i64 0, .bool false, .int .i64 0, .int .i64 0, .int .i64 0, .int .i64 0, .string ⟨#[]⟩, .slice none 0 0, .int .i64 0, .slice none 0 0, .int .i64 0] 36)) := ⟨_, rfl⟩
  rw [← hW0] at H0 ⊢
  clear hW0
  have hc := show W0.cell? ⟨w.heap.size, 11, none⟩ = some (.slice (some ⟨b, off, none⟩) fs.length p.fc) from by rw [blkCell H0.out.get0, ← HPF.out, ← HFN.out]; rfl
  have HC0 := Lib.hid (show W0.rangeAt b (off + k * 5) (frL f) from HCE.out W0 H0.out.below)
  go_upto_region 2 with (first
    | (refine listWants (by kernel_rfl) fun K hK => wp_load_mid 80 (.tmp 12) rfl b (off + k * 5) rfl (frL f) _ HC0.out Tryz.underlying80 (by kernel_rfl) (by kernel_rfl) (hK _ _ ?_))
    | (with_reducible refine wpList_store_new rfl 80 (.tmp 6) (.tmp 13) rfl (frA f) _ _ rfl (by kernel_rfl) (by kernel_rfl) (by kernel_rfl) (by kernel_rfl) ?_))
  have H1 := Lib.hid (H0.out.step (allocB W0 (.cells (frA f) 80)))
  have HG := Lib.hid (heap_alloc_new W0 (.cells (frA f) 80))
  have hlt : w.heap.size + 1 < W0.heap.size := H0.out.lt (i := 1) (by simp)
  obtain ⟨g, hg⟩ : ∃ g, g = W0.heap.size := ⟨_, rfl⟩
  obtain ⟨w1, hw1⟩ : ∃ W, W = W0.alloc (.cells (frA f) 80) := ⟨_, rfl⟩
  rw [← hg, ← hw1] at HG
  rw [← hw1] at H1
  rw [← hw1, ← hg]
  rw [← hg] at hlt
  clear hw1 hg H0 HC0 hc HCE
  try simp only [Act.put]
  have hcg := show w1.cell? ⟨g, 4, none⟩ = some (.int .i64 f.rc) from by rw [blkCell HG.out]; rfl
  by_cases hrc : f.rc = 0
  · have hrb : (f.rc == 0) = true := by rw [hrc]; rfl
    have HRC := Lib.hid hrc
    clear hrc
    go_wp2_with (first | (with_reducible refine listLoad (by kernel_rfl) 36 (.tmp 2) rfl w.heap.size rfl (stA s p) _ H1.out.get0 _ Tryz.underlying36 (by kernel_rfl) (by kernel_rfl) ?_) | (with_reducible refine listStore (by kernel_rfl) 36 (.tmp 4) (.tmp 17) rfl (w.heap.size + 1) (stA s p) _ _ rfl rfl H1.out.get1 (by kernel_rfl) (by kernel_rfl) (by kernel_rfl) ?_))
    refine bodyPost_ret (v := .tuple #[.agg (stA s p), .int .i64 0]) (results_cell2 rfl _ _ rfl (load_whole (setRow_heap _ _ _ _ _ _ H1.out.get1) Tryz.underlying36 (by kernel_rfl) (by kernel_rfl)) rfl) rfl ?_
    exact HSM.out _ (H1.out.row 1 (stA s p) _ rfl).below HRC.out
  · have hrb : (f.rc == 0) = false := beq_eq_false_iff_ne.2 hrc
    clear hrc HSM
    go_upto_region 6 with (first
      | (with_reducible refine listPart (by kernel_rfl) 28 (.tmp 19) rfl w.heap.size 3 rfl #[.slice p.A s.disk.sectors.length p.c, .int .i64 s.disk.left, .bool s.disk.down] (stA s p) _ H1.out.get0 (by kernel_rfl) _ Tryz.underlying28 (by kernel_rfl) (by kernel_rfl) ?_)
      | (with_reducible refine listPart (by kernel_rfl) 30 (.tmp 21) rfl w.heap.size 6 rfl #[.int .i64 s.log.from_, .int .i64 s.log.n, .int .i64 s.log.end_, .int .i64 s.log.safe, .string s.log.tail] (stA s p) _ H1.out.get0 (by kernel_rfl) _ Tryz.underlying30 (by kernel_rfl) (by kernel_rfl) ?_)
      | (go_at_call 139; (refine (HFO.out _ H1.out.below).mono ?_); rintro e w2 ⟨A2, c2, rfl, hr2, ht2, hb2⟩; have H2 := Lib.hid (H1.out.step hb2); have H3 := Lib.hid (show BxL w.heap.size w [((stA { s with disk := d2 } { p with A := A2, c := c2 }), 36), (#[.int .i64 0, .int .i64 0, .int .i64 0, .slice none 0 0, .int .i64 0, .bool false, .int .i64 0, .int .i64 0, .int .i64 0, .int .i64 0, .string ⟨#[]⟩, .slice none 0 0, .int .i64 0, .slice none 0 0, .int .i64 0], 36)] (w2.setRow w.heap.size (stA { s with disk := d2 } { p with A := A2, c := c2 })) from H2.out.row 0 (stA { s with disk := d2 } { p with A := A2, c := c2 }) _ rfl))
      | (with_reducible refine listPut (by kernel_rfl) 28 (.tmp 27) (.tmp 24) rfl w.heap.size 3 #[.slice A2 d2.sectors.length c2, .int .i64 d2.left, .bool d2.down] (stA s p) (stA { s with disk := d2 } { p with A := A2, c := c2 }) _ rfl rfl H2.out.get0 (by kernel_rfl) (by kernel_rfl) (by kernel_rfl) (by kernel_rfl) ?_)
      | (with_reducible refine listPut (by kernel_rfl) 30 (.tmp 28) (.tmp 25) rfl w.heap.size 6 #[.int .i64 l2.from_, .int .i64 l2.n, .int .i64 l2.end_, .int .i64 l2.safe, .string l2.tail] (stA { s with disk := d2 } { p with A := A2, c := c2 }) (stA { s with disk := d2, log := l2 } { p with A := A2, c := c2 }) _ rfl rfl H3.out.get0 (by kernel_rfl) (by kernel_rfl) (by kernel_rfl) (by kernel_rfl) ?_))
    have hr2' : NewT 0 w2 9 A2 := ht2.elim (fun e => by rw [e]; exact HP.out.st.dt.below H2.out.below) (fun e => e.mono (Nat.zero_le _))
    have hbz : Below w.heap.size w2 ((w2.setRow w.heap.size (stA { s with disk := d2 } { p with A := A2, c := c2 })).setRow w.heap.size (stA { s with disk := d2, log := l2 } { p with A := A2, c := c2 })) := rowB (Nat.le_refl _) (rowB (Nat.le_refl _) (show Below w.heap.size w2 w2 from ⟨rfl, rfl, rfl, Nat.le_refl _, fun _ _ => rfl⟩) (stA { s with disk := d2 } { p with A := A2, c := c2 })) (stA { s with disk := d2, log := l2 } { p with A := A2, c := c2 })
    have H4 := Lib.hid (show BxL w.heap.size w [((stA { s with disk := d2, log := l2 } { p with A := A2, c := c2 }), 36), (#[.int .i64 0, .int .i64 0, .int .i64 0, .slice none 0 0, .int .i64 0, .bool false, .int .i64 0, .int .i64 0, .int .i64 0, .int .i64 0, .string ⟨#[]⟩, .slice none 0 0, .int .i64 0, .slice none 0 0, .int .i64 0], 36)] ((w2.setRow w.heap.size (stA { s with disk := d2 } { p with A := A2, c := c2 })).setRow w.heap.size (stA { s with disk := d2, log := l2 } { p with A := A2, c := c2 })) from H3.out.row 0 (stA { s with disk := d2, log := l2 } { p with A := A2, c := c2 }) _ rfl)
    have HG4 := Lib.hid ((heap_setRow_other _ _ (stA { s with disk := d2, log := l2 } { p with A := A2, c := c2 }) _ (show g ≠ w.heap.size by omega)).trans ((heap_setRow_other _ _ (stA { s with disk := d2 } { p with A := A2, c := c2 }) _ (show g ≠ w.heap.size by omega)).trans (blkOld HG.out hb2)))
    have HP2 := Lib.hid ((HP.out.below H1.out.below).disk hb2 l2 hr2 hr2')
    have HP4 := Lib.hid (((HP2.out.other (t := 36) H2.out.get0 (by decide) (by decide) (by decide) (stA { s with disk := d2 } { p with A := A2, c := c2 }))).other (t := 36) H3.out.get0 (by decide) (by decide) (by decide) (stA { s with disk := d2, log := l2 } { p with A := A2, c := c2 }))
    generalize (w2.setRow w.heap.size (stA { s with disk := d2 } { p with A := A2, c := c2 })).setRow w.heap.size (stA { s with disk := d2, log := l2 } { p with A := A2, c := c2 }) = w3 at H4 HG4 HP4 hbz ⊢
    clear hr2 ht2 hr2' hbz hb2 H1 H2 H3 HG HFO HP HP2 hcg hrb
    try simp only [Act.put]
    go_upto_region 8 with fail
    go_cut [7] (fun x wc => x = .int .i64 0 ∧ ∃ (A3 : Option Addr) (c3 : Nat), BxL w.heap.size w [((stA { s with disk := d3, log := l2 } { p with A := A3, c := c3 }), 36), (#[.int .i64 0, .int .i64 0, .int .i64 0, .slice none 0 0, .int .i64 0, .bool false, .int .i64 0, .int .i64 0, .int .i64 0, .int .i64 0, .string ⟨#[]⟩, .slice none 0 0, .int .i64 0, .slice none 0 0, .int .i64 0], 36)] wc ∧ wc.heap[g]? = some (.cells (frA f) 80 (0, 0)) ∧ PoolR wc { s with disk := d3, log := l2 } { p with A := A3, c := c3 } fs)
    case first =>
      have HS8 := Lib.hid (fun (u : World) (hu : Below w3.heap.size w3 u) => show u.heap[w.heap.size]? = some (.cells (stA { s with disk := d2, log := l2 } { p with A := A2, c := c2 }) 36 (0, 0)) ∧ u.heap[g]? = some (.cells (frA f) 80 (0, 0)) from ⟨blkOld H4.out.get0 hu, blkOld HG4.out hu⟩)
      have hQ : Below w3.heap.size w3 w3.drew := (Below.refl _ w3).drew
      have hSn := HS8.out _ hQ
      refine wp_region_Z (S := (fun u => u.heap[w.heap.size]? = some (.cells (stA { s with disk := d2, log := l2 } { p with A := A2, c := c2 }) 36 (0, 0)) ∧ u.heap[g]? = some (.cells (frA f) 80 (0, 0)))) 14 (by kernel_rfl) ?_ (fun hHeld => ?_)
      · exact hSn
      generalize w3.drew = w8 at hQ hSn ⊢
      refine wpAnyZ_take (i := 0) (oi := { dst := some 34, op := _, type := _, pos := _, after := _, guard := _ }) (v := ?_) (p := [14]) rfl (by kernel_rfl) (by kernel_rfl) (by kernel_rfl) (by kernel_rfl) (by kernel_rfl) (by kernel_rfl) (fun _ _ _ h => h) (Or.inl ⟨by rfl, ?_⟩) (by assumption) ?_
      rotate_left
      · intro u hSu; have hcl0 := show u.cell? ⟨g, 0, none⟩ = some (.int .i64 (pg : Int)) from (by rw [blkCell hSu.2, ← HFP.out]; rfl); have hcl1 := show u.cell? ⟨g, 1, none⟩ = some (.string (C pg)) from (by rw [blkCell hSu.2, ← HFB.out]; rfl)
        clear hSu; go_simp; (try with_reducible rfl)
      try simp only [Act.put, List.setIfInBounds_toArray, List.set_cons_zero, List.set_cons_succ]
      refine wpAnyZ_take (i := 1) (oi := { dst := some 35, op := _, type := _, pos := _, after := _, guard := _ }) (v := .agg #[.slice A2 d2.sectors.length c2, .int .i64 d2.left, .bool d2.down]) (p := [14]) rfl (by kernel_rfl) (by kernel_rfl) (by kernel_rfl) (by kernel_rfl) (by kernel_rfl) (by kernel_rfl) (fun _ _ _ h => h) (yieldsIf_load_mid (by rfl) 28 (.tmp 34) rfl w.heap.size 3 (by rfl) [.slice A2 d2.sectors.length c2, .int .i64 d2.left, .bool d2.down] _ (fun u hu j v hj => by rw [blkCell hu.1]; rcases j with _ | _ | _ | j <;> simp at hj ⊢ <;> exact hj) Tryz.underlying28 (by kernel_rfl) (by kernel_rfl)) (by assumption) ?_
      try simp only [Act.put, List.setIfInBounds_toArray, List.set_cons_zero, List.set_cons_succ]
      refine wpAnyZ_take (i := 2) (oi := { dst := some 36, op := _, type := _, pos := _, after := _, guard := _ }) (v := .agg (stA { s with disk := d2, log := l2 } { p with A := A2, c := c2 })) (p := [14]) rfl (by kernel_rfl) (by kernel_rfl) (by kernel_rfl) (by kernel_rfl) (by kernel_rfl) (by kernel_rfl) (fun _ _ _ h => h) (yieldsIf_load_mid (by rfl) 36 (.tmp 2) rfl w.heap.size 0 (by rfl) (stA { s with disk := d2, log := l2 } { p with A := A2, c := c2 }).toList _ (fun u hu => (by intro j v hj; rw [Nat.zero_add, blkCell hu.1]; simpa using hj)) Tryz.underlying36 (by kernel_rfl) (by kernel_rfl)) (by assumption) ?_
      try simp only [Act.put, List.setIfInBounds_toArray, List.set_cons_zero, List.set_cons_succ]
      refine wpAnyZ_take (i := 3) (oi := { dst := some 37, op := _, type := _, pos := _, after := _, guard := _ }) (v := ?_) (p := [14]) rfl (by kernel_rfl) (by kernel_rfl) (by kernel_rfl) (by kernel_rfl) (by kernel_rfl) (by kernel_rfl) (fun _ _ _ h => h) (Or.inl ⟨by rfl, ?_⟩) (by assumption) ?_
      rotate_left
      · intro u hSu; have hcl0 := show u.cell? ⟨g, 0, none⟩ = some (.int .i64 (pg : Int)) from (by rw [blkCell hSu.2, ← HFP.out]; rfl); have hcl1 := show u.cell? ⟨g, 1, none⟩ = some (.string (C pg)) from (by rw [blkCell hSu.2, ← HFB.out]; rfl)
        clear hSu; go_simp; (try with_reducible rfl)
      try simp only [Act.put, List.setIfInBounds_toArray, List.set_cons_zero, List.set_cons_succ]
      refine wpAnyZ_take (i := 4) (oi := { dst := some 38, op := _, type := _, pos := _, after := _, guard := _ }) (v := ?_) (p := [14]) rfl (by kernel_rfl) (by kernel_rfl) (by kernel_rfl) (by kernel_rfl) (by kernel_rfl) (by kernel_rfl) (fun _ _ _ h => h) (Or.inl ⟨by rfl, ?_⟩) (by assumption) ?_
      rotate_left
      · intro u hSu; have hcl0 := show u.cell? ⟨g, 0, none⟩ = some (.int .i64 (pg : Int)) from (by rw [blkCell hSu.2, ← HFP.out]; rfl); have hcl1 := show u.cell? ⟨g, 1, none⟩ = some (.string (C pg)) from (by rw [blkCell hSu.2, ← HFB.out]; rfl)
        clear hSu; go_simp; (try with_reducible rfl)
      try simp only [Act.put, List.setIfInBounds_toArray, List.set_cons_zero, List.set_cons_succ]
      refine wpAnyZ_take (i := 6) (oi := { dst := some 40, op := _, type := _, pos := _, after := _, guard := _ }) (v := ?_) (p := [14]) rfl (by kernel_rfl) (by kernel_rfl) (by kernel_rfl) (by kernel_rfl) (by kernel_rfl) (by kernel_rfl) (fun _ _ _ h => h) (Or.inl ⟨by rfl, ?_⟩) (by assumption) ?_
      rotate_left
      · intro u hSu; have hcl0 := show u.cell? ⟨g, 0, none⟩ = some (.int .i64 (pg : Int)) from (by rw [blkCell hSu.2, ← HFP.out]; rfl); have hcl1 := show u.cell? ⟨g, 1, none⟩ = some (.string (C pg)) from (by rw [blkCell hSu.2, ← HFB.out]; rfl)
        clear hSu; go_simp; (try with_reducible rfl)
      try simp only [Act.put, List.setIfInBounds_toArray, List.set_cons_zero, List.set_cons_succ]
      refine wpAnyZ_take (i := 7) (oi := { dst := some 41, op := _, type := _, pos := _, after := _, guard := _ }) (v := ?_) (p := [14]) rfl (by kernel_rfl) (by kernel_rfl) (by kernel_rfl) (by kernel_rfl) (by kernel_rfl) (by kernel_rfl) (fun _ _ _ h => h) (Or.inl ⟨by rfl, ?_⟩) (by assumption) ?_
      rotate_left
      · intro u hSu; have hcl0 := show u.cell? ⟨g, 0, none⟩ = some (.int .i64 (pg : Int)) from (by rw [blkCell hSu.2, ← HFP.out]; rfl); have hcl1 := show u.cell? ⟨g, 1, none⟩ = some (.string (C pg)) from (by rw [blkCell hSu.2, ← HFB.out]; rfl)
        clear hSu; go_simp; (try with_reducible rfl)
      try simp only [Act.put, List.setIfInBounds_toArray, List.set_cons_zero, List.set_cons_succ]
      refine wpAnyZ_ready (rs := [5]) (by kernel_rfl) (by simp) ?_
      refine (AllReadyZ.cons (o := { dst := some 39, op := _, type := _, pos := _, after := _, guard := _ }) rfl (fun K hK => ?_) AllReadyZ.nil)
      go_simp
      (refine (HSA.out A2 c2 _).mono ?_); rintro e w9 ⟨rfl, hb9⟩; have hQ2 := joinB hQ hb9; clear hQ hSn hb9; have hQ := hQ2; clear hQ2; have hSn := HS8.out _ hQ
      refine hK.out _ _ ?_ (fun hHeld => ?_)
      · exact hSn
      clear hK K
      try simp only [Act.put, List.setIfInBounds_toArray, List.set_cons_zero, List.set_cons_succ]
      refine wpAnyZ_ready (rs := [8]) (by kernel_rfl) (by simp) ?_
      refine (AllReadyZ.cons (o := { dst := some 42, op := _, type := _, pos := _, after := _, guard := _ }) rfl (fun K hK => ?_) AllReadyZ.nil)
      go_simp
      (refine (HSL.out _).mono ?_); rintro e w9 ⟨rfl, hb9⟩; have hQ2 := joinB hQ hb9; clear hQ hSn hb9; have hQ := hQ2; clear hQ2; have hSn := HS8.out _ hQ
      refine hK.out _ _ ?_ (fun hHeld => ?_)
      · exact hSn
      clear hK K
      try simp only [Act.put, List.setIfInBounds_toArray, List.set_cons_zero, List.set_cons_succ]
      refine wpAnyZ_ready (rs := [9]) (by kernel_rfl) (by simp) ?_
      refine (AllReadyZ.cons (o := { dst := some 43, op := _, type := _, pos := _, after := _, guard := _ }) rfl (fun K hK => ?_) AllReadyZ.nil)
      go_simp
      (refine (HWP.out A2 c2 _ (HP4.out.below hQ).st.dk (HP4.out.below hQ).st.dt).mono ?_); rintro e w9 ⟨A3, c3, rfl, hr9, hn9, hb9⟩; have hp9 := (HP4.out.below hQ).disk hb9 l2 hr9 hn9; clear hr9 hn9; have hQ2 := joinB hQ hb9; clear hQ hSn hb9; have hQ := hQ2; clear hQ2; have hSn := HS8.out _ hQ
      refine hK.out _ _ ?_ (fun hHeld => ?_)
      · exact hSn
      clear hK K
      try simp only [Act.put, List.setIfInBounds_toArray, List.set_cons_zero, List.set_cons_succ]
      refine wpAnyZ_take (i := 10) (oi := { dst := some 33, op := _, type := _, pos := _, after := _, guard := _ }) (v := ?_) (p := [14]) rfl (by kernel_rfl) (by kernel_rfl) (by kernel_rfl) (by kernel_rfl) (by kernel_rfl) (by kernel_rfl) (fun _ _ _ h => h) (Or.inl ⟨by rfl, ?_⟩) (by assumption) ?_
      rotate_left
      · intro u hSu; have hcl0 := show u.cell? ⟨g, 0, none⟩ = some (.int .i64 (pg : Int)) from (by rw [blkCell hSu.2, ← HFP.out]; rfl); have hcl1 := show u.cell? ⟨g, 1, none⟩ = some (.string (C pg)) from (by rw [blkCell hSu.2, ← HFB.out]; rfl)
        clear hSu; go_simp; (try with_reducible rfl)
      try simp only [Act.put, List.setIfInBounds_toArray, List.set_cons_zero, List.set_cons_succ]
      refine wpAnyZ_take (i := 11) (oi := { dst := some 44, op := _, type := _, pos := _, after := _, guard := _ }) (v := ?_) (p := [14]) rfl (by kernel_rfl) (by kernel_rfl) (by kernel_rfl) (by kernel_rfl) (by kernel_rfl) (by kernel_rfl) (fun _ _ _ h => h) (Or.inl ⟨by rfl, ?_⟩) (by assumption) ?_
      rotate_left
      · intro u hSu; have hcl0 := show u.cell? ⟨g, 0, none⟩ = some (.int .i64 (pg : Int)) from (by rw [blkCell hSu.2, ← HFP.out]; rfl); have hcl1 := show u.cell? ⟨g, 1, none⟩ = some (.string (C pg)) from (by rw [blkCell hSu.2, ← HFB.out]; rfl)
        clear hSu; go_simp; (try with_reducible rfl)
      try simp only [Act.put, List.setIfInBounds_toArray, List.set_cons_zero, List.set_cons_succ]
      refine wpAnyZ_takeP (i := 12) (oi := { dst := some 45, op := _, type := _, pos := _, after := _, guard := _ }) (v := ?_) rfl (by kernel_rfl) (by kernel_rfl) (by kernel_rfl) (by kernel_rfl) (fun _ _ _ h => h) (Or.inl ⟨by rfl, ?_⟩) (fun _ => by assumption) ?_
      rotate_left
      · intro u hSu; clear hSu; go_simp; (try with_reducible rfl)
      try simp only [Act.put, List.setIfInBounds_toArray, List.set_cons_zero, List.set_cons_succ]
      refine wpAnyZ_take (i := 13) (oi := { dst := some 46, op := _, type := _, pos := _, after := _, guard := _ }) (v := ?_) (p := [14]) rfl (by kernel_rfl) (by kernel_rfl) (by kernel_rfl) (by kernel_rfl) (by kernel_rfl) (by kernel_rfl) (fun _ _ _ h => h) (Or.inl ⟨by rfl, ?_⟩) (by assumption) ?_
      rotate_left
      · intro u hSu; have hcl0 := show u.cell? ⟨g, 0, none⟩ = some (.int .i64 (pg : Int)) from (by rw [blkCell hSu.2, ← HFP.out]; rfl); have hcl1 := show u.cell? ⟨g, 1, none⟩ = some (.string (C pg)) from (by rw [blkCell hSu.2, ← HFB.out]; rfl)
        clear hSu; go_simp; (try with_reducible rfl)
      try simp only [Act.put, List.setIfInBounds_toArray, List.set_cons_zero, List.set_cons_succ]
      refine wpAnyZ_ready (rs := [14]) (by kernel_rfl) (by simp) ?_
      refine (AllReadyZ.last (o := { dst := none, op := _, type := _, pos := _, after := _, guard := _ }) rfl (by kernel_rfl) (fun K hK => ?_) AllReadyZ.nil)
      refine wantedIf (by rfl) ?_
      refine wpPut 28 (.tmp 46) (.tmp 44) rfl w.heap.size 3 #[.slice A3 d3.sectors.length c3, .int .i64 d3.left, .bool d3.down] (stA { s with disk := d2, log := l2 } { p with A := A2, c := c2 }) (stA { s with disk := d3, log := l2 } { p with A := A3, c := c3 }) _ rfl rfl hSn.1 (by kernel_rfl) (by kernel_rfl) (by kernel_rfl) (by kernel_rfl) ?_
      refine hK.out _ _ ?_
      clear hK K
      try simp only [Act.put]
      refine wpAnyZ_takeP (i := 15) (oi := { dst := some 7, op := _, type := _, pos := _, after := _, guard := _ }) (v := ?_) rfl (by kernel_rfl) (by kernel_rfl) (by kernel_rfl) (by kernel_rfl) (fun _ _ _ h => h) (Or.inl ⟨by rfl, ?_⟩) (fun h => absurd h (by decide)) ?_
      rotate_left
      · intro u hSu; clear hSu; go_simp; (try with_reducible rfl)
      try simp only [Act.put, List.setIfInBounds_toArray, List.set_cons_zero, List.set_cons_succ]
      refine wpAnyZ_done (by kernel_rfl) ?_ _
      go_wp2_with fail
      go_meet
      case rel => exact ⟨rfl, A3, c3, (H4.out.step hQ).row 0 (stA { s with disk := d3, log := l2 } { p with A := A3, c := c3 }) _ rfl, (heap_setRow_other _ _ (stA { s with disk := d3, log := l2 } { p with A := A3, c := c3 }) _ (show g ≠ w.heap.size by omega)).trans hSn.2, hp9.other (t := 36) hSn.1 (by decide) (by decide) (by decide) (stA { s with disk := d3, log := l2 } { p with A := A3, c := c3 })⟩
    case rest =>
      obtain ⟨rfl, A3, c3, h12, hg12, hp12⟩ := hcut
      obtain ⟨w13, rfl⟩ : ∃ wm : World, wm = wc := ⟨_, rfl⟩
      have H13 := Lib.hid h12
      have HF13 := Lib.hid hg12
      have HP13 := Lib.hid hp12
      clear h12 hg12 hp12 H4 HG4 HP4 HSL HWP HSA
      have hcx := show w13.cell? ⟨g, 4, none⟩ = some (.int .i64 f.rc) from by rw [blkCell HF13.out]; rfl
      have hzx := blkFrozen HF13.out 4
      have HWI := Lib.hid (fun W (hp : PoolR W { s with disk := d3, log := l2 } { p with A := A3, c := c3 } fs) => pwith_any { s with disk := d3, log := l2 } { p with A := A3, c := c3 } fs hfl k hk { f with rc := 0 } W hp)
      go_upto_region 12 with fail
      have HG14 := Lib.hid (show (w13.setCell ⟨g, 4, none⟩ (.int .i64 0)).heap[g]? = some (.cells (frA { f with rc := 0 }) 80 (0, 0)) from by have := blkSet 4 HF13.out (.int .i64 0); simpa using this)
      have H14 := Lib.hid (H13.out.under (M := g) (by simp; omega) ((Below.refl _ w13).setCell (p := ⟨g, 4, none⟩) (Nat.le_refl _) (.int .i64 0)))
      have HP14 := Lib.hid (HP13.out.own HF13.out (fun ad e => by have e2 : p.F = some ad := e; rw [HPF.out] at e2; injection e2 with e2; subst e2; have := HBL.out; show b ≠ g; omega) 4 (.int .i64 0))
      generalize w13.setCell ⟨g, 4, none⟩ (.int .i64 0) = w14 at HG14 H14 HP14 ⊢
      clear hcx hzx H13 HP13 HF13
      go_wp2_with (first
        | (with_reducible refine listLoad (by kernel_rfl) 36 (.tmp 2) rfl w.heap.size rfl (stA { s with disk := d3, log := l2 } { p with A := A3, c := c3 }) _ H14.out.get0 _ Tryz.underlying36 (by kernel_rfl) (by kernel_rfl) ?_)
        | (with_reducible refine listLoad (by kernel_rfl) 80 (.tmp 6) rfl g rfl (frA { f with rc := 0 }) _ HG14.out _ Tryz.underlying80 (by kernel_rfl) (by kernel_rfl) ?_)
        | (go_at_call 64; (refine (HWI.out _ HP14.out).mono ?_); rintro e w15 ⟨q, rfl, hpq, hb15⟩; have H15 := Lib.hid (H14.out.step hb15))
        | (with_reducible refine listStore (by kernel_rfl) 36 (.tmp 4) (.tmp 55) rfl (w.heap.size + 1) (stA { s with disk := d3, log := l2 } q) _ _ rfl rfl H15.out.get1 (by kernel_rfl) (by kernel_rfl) (by kernel_rfl) ?_))
      refine bodyPost_ret (v := .tuple #[.agg (stA { s with disk := d3, log := l2 } q), .int .i64 0]) (results_cell2 rfl _ _ rfl (load_whole (setRow_heap _ _ _ _ _ _ H15.out.get1) Tryz.underlying36 (by kernel_rfl) (by kernel_rfl)) rfl) rfl ?_
      exact HFI.out _ q (hpq.other H15.out.get1 (by decide) (by decide) (by decide) _) (H15.out.row 1 (stA { s with disk := d3, log := l2 } q) _ rfl).below
def RmOut (N n : Nat) (C : Nat → ByteArray) (s : Tx.St) (fs : List Fr) (w : World) (e : Ending) (w' : World) : Prop :=
  ∃ (s' : Tx.St) (q : SP) (fs' : List Fr) (k : Nat), e = .returned (.tuple #[storeV s' q, .int .i64 (k : Int), .int .i64 0]) ∧ PoolR w' s' q fs' ∧ PI N n s' fs' C ∧ Hk s s' fs fs' ∧ Pgs fs fs' ∧ (∃ h : k < fs'.length, Full fs'[k] → fs'[k].rc = 0) ∧ Below w.heap.size w w'
set_option maxRecDepth 100000 in
set_option maxHeartbeats 16000000 in
theorem proom_any {N n : Nat} (s : Tx.St) (p : SP) (fs : List Fr) (C : Nat → ByteArray) (hI : PI N n s fs C) (w : World) (h : PoolR w s p fs) :
    Calls Tryz.prog 66 #[storeV s p] w (RmOut N n C s fs w) := by
  have hnf := hI.nf
  have HIX := Lib.hid (fun W (hb : Below w.heap.size w W) => indexF_any (fun f => ¬ Full f) 99 #[] (enters_of Tryz.func99 (by kernel_rfl) rfl) fs (by omega) p.F p.fc W (h.fr.below hb) (fun f _ V _ => by simpa using pfree_any f V))
  have HVI := Lib.hid (fun W (hb : Below w.heap.size w W) => pvictim_any s p fs C hI W (h.below hb))
  have HFL := Lib.hid (fun (x : Int) (hx : 0 ≤ x ∧ x ≤ 64) (q : SP) (fs1 : List Fr) (hm : MkR fs fs1) (k : Nat) (hk : k < fs1.length) (hf : Full fs1[k]) W (hp : PoolR W { s with hand := x } q fs1) => pflush_any { s with hand := x } q fs1 C ((hI.hand x hx).marks hm) k hk hf W hp)
  have HFN := Lib.hid h.fn
  have HP := Lib.hid h
  have HSM := Lib.hid (fun W (hb1 : Below w.heap.size w W) (k : Nat) (hk : k < fs.length) (hf : ¬ Full fs[k]) => show RmOut N n C s fs w (.returned (.tuple #[storeV s p, .int .i64 (k : Int), .int .i64 0])) W from ⟨s, p, fs, k, rfl, h.below hb1, hI, Hk.refl s fs, Pgs.refl fs, ⟨hk, fun e => absurd e hf⟩, hb1⟩)
  clear h
  go_enter Tryz.func66, Tryz.ntmps66
  go_upto_region 1 with fail
  have H0 := Lib.hid (show BxL w.heap.size w [((stA s p), 36), (#[.int .i64 0, .int .i64 0, .int .i64 0, .slice none 0 0, .int .i64 0, .bool false, .int .i64 0, .int .i64 0, .int .i64 0, .int .i64 0, .string ⟨#[]⟩, .slice none 0 0, .int .i64 0, .slice none 0 0, .int .i64 0], 36)] ((w.alloc (.cells (stA s p) 36)).alloc (.cells #[.int .i64 0, .int .i64 0, .int .i64 0, .slice none 0 0, .int .i64 0, .bool false, .int .i64 0, .int .i64 0, .int .i64 0, .int .i64 0, .string ⟨#[]⟩, .slice none 0 0, .int .i64 0, .slice none 0 0, .int .i64 0] 36)) from (((BxL.nil (Below.refl w.heap.size w)).new (by simp) (stA s p) 36).new (by simp) #[.int .i64 0, .int .i64 0, .int .i64 0, .slice none 0 0, .int .i64 0, .bool false, .int .i64 0, .int .i64 0, .int .i64 0, .int .i64 0, .string ⟨#[]⟩, .slice none 0 0, .int .i64 0, .slice none 0 0, .int .i64 0] 36))
  obtain ⟨W0, hW0⟩ : ∃ W, W = ((w.alloc (.cells (stA s p) 36)).alloc (.cells #[.int .i64 0, .int .i64 0, .int .i64 0, .slice none 0 0, .int .i64 0, .bool false, .int .i64 0, .int .i64 0, .int .i64 0, .int .i64 0, .string ⟨#[]⟩, .slice none 0 0, .int .i64 0, .slice none 0 0, .int .i64 0] 36)) := ⟨_, rfl⟩
  rw [← hW0] at H0 ⊢
  clear hW0
  have hc := show W0.cell? ⟨w.heap.size, 11, none⟩ = some (.slice p.F fs.length p.fc) from by rw [blkCell H0.out.get0, ← HFN.out]; rfl
  go_upto_region 2 with (go_at_call 97; (refine (HIX.out _ H0.out.below).mono ?_); rintro e w1 ⟨kk, rfl, hq, hb1⟩; have H1 := Lib.hid (H0.out.step hb1); clear hb1 HIX hc H0; rcases hq with ⟨rfl, hq⟩ | ⟨k, hk, rfl, hfk, _⟩)
  · have hm1 : ¬ (0 : Int) ≤ -1 := by decide
    have hfull : ∀ i (hi : i < fs.length), Full fs[i] := fun i hi => Classical.byContradiction fun hn => hq fs[i] (List.getElem_mem hi) hn
    have HFU := Lib.hid hfull
    clear hfull hq HSM
    go_upto_region 5 with (first
      | (with_reducible refine listLoad (by kernel_rfl) 36 (.tmp 1) rfl w.heap.size rfl (stA s p) _ H1.out.get0 _ Tryz.underlying36 (by kernel_rfl) (by kernel_rfl) ?_)
      | (go_at_call 105; (refine (HVI.out _ H1.out.below).mono ?_); rintro e w2 ⟨x, q, fs1, k, rfl, hx, hk, hm, hp2, hb2⟩; have H2 := Lib.hid (H1.out.step hb2))
      | (with_reducible refine listStore (by kernel_rfl) 36 (.tmp 1) (.tmp 19) rfl w.heap.size (stA { s with hand := x } q) _ _ rfl rfl H2.out.get0 (by kernel_rfl) (by kernel_rfl) (by kernel_rfl) ?_))
    have H3 := Lib.hid (show BxL w.heap.size w [((stA { s with hand := x } q), 36), (#[.int .i64 0, .int .i64 0, .int .i64 0, .slice none 0 0, .int .i64 0, .bool false, .int .i64 0, .int .i64 0, .int .i64 0, .int .i64 0, .string ⟨#[]⟩, .slice none 0 0, .int .i64 0, .slice none 0 0, .int .i64 0], 36)] (w2.setRow w.heap.size (stA { s with hand := x } q)) from H2.out.row 0 (stA { s with hand := x } q) _ rfl)
    have HP3 := Lib.hid (hp2.other (t := 36) H2.out.get0 (by decide) (by decide) (by decide) (stA { s with hand := x } q))
    have HM := Lib.hid hm
    have hml := hm.len
    have hk1 : k < fs1.length := by omega
    have HF1 := Lib.hid (show Full fs1[k] from by
      have e := (Pgs.marks hm k hk hk1).2
      have := HFU.out k hk
      unfold Full at this ⊢
      rw [e]; exact this)
    have hki : ¬ (k : Int) < 0 := by omega
    generalize w2.setRow w.heap.size (stA { s with hand := x } q) = w3 at H3 HP3 ⊢
    clear hb2 hp2 H1 H2 hm hml hk HVI
    try simp only [Act.put]
    go_upto_region 8 with (first
      | (with_reducible refine listLoad (by kernel_rfl) 36 (.tmp 1) rfl w.heap.size rfl (stA { s with hand := x } q) _ H3.out.get0 _ Tryz.underlying36 (by kernel_rfl) (by kernel_rfl) ?_)
      | (go_at_call 106; (refine (HFL.out x hx q fs1 HM.out k hk1 HF1.out _ HP3.out).mono ?_); rintro e w4 ⟨d, l, q4, fs4, rfl, hp4, hi4, hk4, hg4, hc4, hb4⟩; have H4 := Lib.hid (H3.out.step hb4))
      | (with_reducible refine listStore (by kernel_rfl) 36 (.tmp 1) (.tmp 28) rfl w.heap.size (stA { s with hand := x, disk := d, log := l } q4) _ _ rfl rfl H4.out.get0 (by kernel_rfl) (by kernel_rfl) (by kernel_rfl) ?_))
    have H5 := Lib.hid (show BxL w.heap.size w [((stA { s with hand := x, disk := d, log := l } q4), 36), (#[.int .i64 0, .int .i64 0, .int .i64 0, .slice none 0 0, .int .i64 0, .bool false, .int .i64 0, .int .i64 0, .int .i64 0, .int .i64 0, .string ⟨#[]⟩, .slice none 0 0, .int .i64 0, .slice none 0 0, .int .i64 0], 36)] (w4.setRow w.heap.size (stA { s with hand := x, disk := d, log := l } q4)) from H4.out.row 0 (stA { s with hand := x, disk := d, log := l } q4) _ rfl)
    have HP5 := Lib.hid (hp4.other (t := 36) H4.out.get0 (by decide) (by decide) (by decide) (stA { s with hand := x, disk := d, log := l } q4))
    have HOK := Lib.hid (And.intro hi4 (And.intro hk4 (And.intro hg4 hc4)))
    generalize w4.setRow w.heap.size (stA { s with hand := x, disk := d, log := l } q4) = w5 at H5 HP5 ⊢
    clear hb4 hp4 H3 H4 HP3 hi4 hk4 hg4 hc4 HFL
    try simp only [Act.put]
    go_wp2_with (first
      | (with_reducible refine listLoad (by kernel_rfl) 36 (.tmp 1) rfl w.heap.size rfl (stA { s with hand := x, disk := d, log := l } q4) _ H5.out.get0 _ Tryz.underlying36 (by kernel_rfl) (by kernel_rfl) ?_)
      | (with_reducible refine listStore (by kernel_rfl) 36 (.tmp 2) (.tmp 30) rfl (w.heap.size + 1) (stA { s with hand := x, disk := d, log := l } q4) _ _ rfl rfl H5.out.get1 (by kernel_rfl) (by kernel_rfl) (by kernel_rfl) ?_))
    refine bodyPost_ret (v := .tuple #[.agg (stA { s with hand := x, disk := d, log := l } q4), .int .i64 (k : Int), .int .i64 0]) (results_cell3 rfl _ _ rfl (load_whole (setRow_heap _ _ _ _ _ _ H5.out.get1) Tryz.underlying36 (by kernel_rfl) (by kernel_rfl)) rfl rfl) rfl ?_
    obtain ⟨hi4, hk4, hg4, hc4⟩ := HOK.out
    exact ⟨_, q4, fs4, k, rfl, HP5.out.other (t := 36) H5.out.get1 (by decide) (by decide) (by decide) _, hi4, (show Hk s { s with hand := x } fs fs1 from ⟨rfl, rfl, rfl, rfl, HM.out.len⟩).trans hk4, (Pgs.marks HM.out).trans hg4 HM.out.len, hc4.imp fun _ a _ => a, (H5.out.row 1 (stA { s with hand := x, disk := d, log := l } q4) _ rfl).below⟩
  · have hk0 : (0 : Int) ≤ (k : Int) := by omega
    clear HVI HFL
    have HFK := Lib.hid hfk
    clear hfk
    go_wp2_with (first
      | (with_reducible refine listLoad (by kernel_rfl) 36 (.tmp 1) rfl w.heap.size rfl (stA s p) _ H1.out.get0 _ Tryz.underlying36 (by kernel_rfl) (by kernel_rfl) ?_)
      | (with_reducible refine listStore (by kernel_rfl) 36 (.tmp 2) (.tmp 14) rfl (w.heap.size + 1) (stA s p) _ _ rfl rfl H1.out.get1 (by kernel_rfl) (by kernel_rfl) (by kernel_rfl) ?_))
    refine bodyPost_ret (v := .tuple #[.agg (stA s p), .int .i64 (k : Int), .int .i64 0]) (results_cell3 rfl _ _ rfl (load_whole (setRow_heap _ _ _ _ _ _ H1.out.get1) Tryz.underlying36 (by kernel_rfl) (by kernel_rfl)) rfl rfl) rfl ?_
    exact HSM.out _ (H1.out.row 1 (stA s p) _ rfl).below k hk HFK.out
end Go.Proofs.YtmebkghdkeeobaaGreatDoor
