import Derived.Test.YtmebkghdkeeobaaGreatDoorHo00
import Derived.Test.YtmebkghdkeeobaaGreatDoorHo24
set_option maxRecDepth 100000
set_option maxHeartbeats 16000000
set_option linter.unusedSimpArgs false
namespace Go.Proofs.YtmebkghdkeeobaaGreatDoor
open Go.RowKit Sc
set_option maxRecDepth 100000 in
set_option maxHeartbeats 16000000 in
theorem sfree_any {N n k : Nat} {ids : List Int} {c : Int} (s : Tx.St) (p : SP) (fs : List Fr) (C : Nat → ByteArray) (hS : SS N n k ids c s fs C) (hc : c + 5048 ≤ (N : Int) * 128) (t : Int) (ht : t ∈ ids) (htn : Rc.num t) (b : ByteArray) (u : Nat → Nat) (hu : SI n C b u) (pg : Nat) (hpg : pg < n) (hp1 : 1 ≤ pg) (hyes : 0 < u pg) (w : World) (h : PoolR w s p fs) :
    Calls Tryz.prog 10 #[storeV s p, .int .i64 t, .int .i64 (pg : Int)] w (FeOut N n k ids (c + 5048) (flipB b pg) (fun q => if q = pg then 0 else u q) w) := by
  have hn := hS.pi.n1
  have HZ := Lib.hid hS.pi.zp
  have HBI := Lib.hid (fun W (hb : Below w.heap.size w W) => sbits_any s p fs C hS b u hu W (h.below hb))
  have HUS := Lib.hid (fun (v : Value) (B : Nat) (j : Nat) (hj : j < n) W (hv : OwnB B W v b.data.toList) => sused_any v b B j (by rw [hu.sz]; omega) (by omega) W hv)
  have HBT := Lib.hid hu.bt
  have HFP := Lib.hid (fun (s1 : Tx.St) (q1 : SP) (fs1 : List Fr) (hS1 : SS N n k ids c s1 fs1 C) (v : Value) (B g : Nat) W (hv : OwnU B g W v b.data.toList) (hw : PoolR W s1 q1 fs1) => sflip_any s1 q1 fs1 C hS1 hc t ht htn b u hu pg hpg hp1 0 (by omega) ⟨fun h0 => absurd h0 (by omega), fun h0 => absurd hyes h0⟩ v B g W hv hw)
  have HYE := Lib.hid hyes
  have HQ := Lib.hid (fun (s' : Tx.St) (q : SP) (fs' : List Fr) (C' : Nat → ByteArray) w' h1 h2 h3 h4 => show FeOut N n k ids (c + 5048) (flipB b pg) (fun q => if q = pg then 0 else u q) w (.returned (.tuple #[storeV s' q, .int .i64 0])) w' from ⟨s', q, fs', C', rfl, h1, h2, h3, h4⟩)
  generalize hAQ : FeOut N n k ids (c + 5048) (flipB b pg) (fun q => if q = pg then 0 else u q) w = Q at HQ ⊢
  clear h hS hu hyes hc ht htn hAQ
  go_enter Tryz.func10, Tryz.ntmps10
  go_upto_region 1 with fail
  have H0 := Lib.hid (show BxL w.heap.size w [((stA s p), 36), (#[.int .i64 0, .int .i64 0, .int .i64 0, .slice none 0 0, .int .i64 0, .bool false, .int .i64 0, .int .i64 0, .int .i64 0, .int .i64 0, .string ⟨#[]⟩, .slice none 0 0, .int .i64 0, .slice none 0 0, .int .i64 0], 36)] ((w.alloc (.cells (stA s p) 36)).alloc (.cells #[.int .i64 0, .int .i64 0, .int .i64 0, .slice none 0 0, .int .i64 0, .bool false, .int .i64 0, .int .i64 0, .int .i64 0, .int .i64 0, .string ⟨#[]⟩, .slice none 0 0, .int .i64 0, .slice none 0 0, .int .i64 0] 36)) from (((BxL.nil (Below.refl w.heap.size w)).new (by simp) (stA s p) 36).new (by simp) #[.int .i64 0, .int .i64 0, .int .i64 0, .slice none 0 0, .int .i64 0, .bool false, .int .i64 0, .int .i64 0, .int .i64 0, .int .i64 0, .string ⟨#[]⟩, .slice none 0 0, .int .i64 0, .slice none 0 0, .int .i64 0] 36))
  obtain ⟨W0, hW0⟩ : ∃ W, W = ((w.alloc (.cells (stA s p) 36)).alloc (.cells #[.int .i64 0, .int .i64 0, .int .i64 0, .slice none 0 0, .int .i64 0, .bool false, .int .i64 0, .int .i64 0, .int .i64 0, .int .i64 0, .string ⟨#[]⟩, .slice none 0 0, .int .i64 0, .slice none 0 0, .int .i64 0] 36)) := ⟨_, rfl⟩
  rw [← hW0] at H0 ⊢
  clear hW0
  go_upto_region 2 with (first
    | (with_reducible refine listLoad (by kernel_rfl) 36 (.tmp 3) rfl w.heap.size rfl (stA s p) _ H0.out.get0 _ Tryz.underlying36 (by kernel_rfl) (by kernel_rfl) ?_)
    | (go_at_call 31; (refine (HBI.out _ H0.out.below).mono ?_); rintro e w4 ⟨s1, q1, fs1, v, g, rfl, hp4, hi4, hv4, hg4, hb4⟩)
    | (with_reducible refine wpList_store_new rfl 36 (.tmp 8) (.tmp 14) rfl (stA s1 q1) _ _ rfl (by kernel_rfl) (by kernel_rfl) (by kernel_rfl) (by kernel_rfl) ?_))
  have hb5 := hb4.trans ((allocB w4 (.cells (stA s1 q1) 36)).mono hb4.size)
  have H5 := Lib.hid (H0.out.step hb5)
  have HG5 := Lib.hid (heap_alloc_new w4 (.cells (stA s1 q1) 36))
  have HP5 := Lib.hid (hp4.below (allocB w4 (.cells (stA s1 q1) 36)))
  have HV5 := Lib.hid (hv4.below (allocB w4 (.cells (stA s1 q1) 36)))
  have HS5 := Lib.hid hi4
  have hg9 : g < w4.heap.size := by obtain ⟨cur, fr, h1⟩ := hv4.ty; exact heapLt h1
  have hM : w.heap.size + 2 ≤ W0.heap.size := H0.out.lt (i := 1) (by simp)
  obtain ⟨g9, hge⟩ : ∃ g, g = w4.heap.size := ⟨_, rfl⟩
  obtain ⟨w5, hw5⟩ : ∃ W, W = w4.alloc (.cells (stA s1 q1) 36) := ⟨_, rfl⟩
  rw [← hge, ← hw5] at HG5
  rw [← hw5] at H5 HP5 HV5
  rw [← hw5, ← hge]
  rw [← hge] at hg9
  have hB9 : w.heap.size + 2 ≤ g := by omega
  clear hw5 hge hb4 hb5 H0 HBI hp4 hi4 hv4 hg4 hM
  try simp only [Act.put]
  have HUJ := Lib.hid (fun W (hb : Below w5.heap.size w5 W) => HUS.out v _ pg hpg W (HV5.out.own.below hb))
  rw [HBT.out pg hpg, decide_eq_true HYE.out] at HUJ
  have hc1 := show w5.cell? ⟨w.heap.size, 1, none⟩ = some (.int .i64 (n : Int)) from by rw [blkCell H5.out.get0, ← HZ.out]; rfl
  have hp1i : ¬ (pg : Int) < 1 := by omega
  have hp2i : ¬ (n : Int) ≤ (pg : Int) := by omega
  have hp3i : (pg : Int) < (n : Int) := by omega
  have hlt9 : g9 < w5.heap.size := heapLt HG5.out
  go_upto_region 9 with (first
    | (go_at_call 33; (refine (HUJ.out _ (Below.refl _ _)).mono ?_); rintro e w6 ⟨rfl, hb56⟩; have H6 := Lib.hid (H5.out.step hb56); have HG6 := Lib.hid (blkOld HG5.out hb56))
    | (with_reducible refine listLoad (by kernel_rfl) 36 (.tmp 8) rfl g9 rfl (stA s1 q1) _ HG6.out _ Tryz.underlying36 (by kernel_rfl) (by kernel_rfl) ?_)
    | (go_at_call 34; (refine (HFP.out s1 q1 fs1 HS5.out v _ g _ (HV5.out.below hb56) (HP5.out.below hb56)).mono ?_); rintro e w7 ⟨s2, q2, fs2, C2, rfl, hp7, hi7, hu7, hk7⟩; have H7 := Lib.hid (H6.out.under (M := w.heap.size + 2) (by simp) (hk7.below (by have := hb56.size; omega) hB9)); have HG7 := Lib.hid ((hk7.block g9 (by have := hb56.size; omega) (by omega)).trans HG6.out))
    | (with_reducible refine listStore (by kernel_rfl) 36 (.tmp 8) (.tmp 48) rfl g9 (stA s2 q2) _ _ rfl rfl HG7.out (by kernel_rfl) (by kernel_rfl) (by kernel_rfl) ?_))
  have H8 := Lib.hid (H7.out.under (M := w.heap.size + 2) (by simp) (rowB (g := g9) (by omega) (show Below (w.heap.size + 2) w7 w7 from ⟨rfl, rfl, rfl, Nat.le_refl _, fun _ _ => rfl⟩) (stA s2 q2)))
  have HG8 := Lib.hid (setRow_heap _ _ _ (stA s2 q2) _ _ HG7.out)
  have HP8 := Lib.hid (hp7.other (t := 36) HG7.out (by decide) (by decide) (by decide) (stA s2 q2))
  generalize w7.setRow g9 (stA s2 q2) = w8 at H8 HG8 HP8 ⊢
  clear H6 HG6 H7 HG7 hp7 hk7 hb56 HFP HUS HUJ H5 HG5 HP5 HV5 hc1
  try simp only [Act.put]
  have HBK := Lib.hid (fun W => sback_any s p s2 q2 0 (by decide) W)
  go_wp2_with (first
    | (with_reducible refine listLoad (by kernel_rfl) 36 (.tmp 3) rfl w.heap.size rfl (stA s p) _ H8.out.get0 _ Tryz.underlying36 (by kernel_rfl) (by kernel_rfl) ?_)
    | (with_reducible refine listLoad (by kernel_rfl) 36 (.tmp 8) rfl g9 rfl (stA s2 q2) _ HG8.out _ Tryz.underlying36 (by kernel_rfl) (by kernel_rfl) ?_)
    | (go_at_call 32; (refine (HBK.out _).mono ?_); rintro e w9 ⟨he, hb9⟩; rw [if_pos rfl] at he; subst he; have H9 := Lib.hid (H8.out.step hb9))
    | (with_reducible refine listStore (by kernel_rfl) 36 (.tmp 6) (.tmp 53) rfl (w.heap.size + 1) (stA s2 q2) _ _ rfl rfl H9.out.get1 (by kernel_rfl) (by kernel_rfl) (by kernel_rfl) ?_))
  refine bodyPost_ret (v := .tuple #[.agg (stA s2 q2), .int .i64 0]) (results_cell2 rfl _ _ rfl (load_whole (setRow_heap _ _ _ _ _ _ H9.out.get1) Tryz.underlying36 (by kernel_rfl) (by kernel_rfl)) rfl) rfl ?_
  exact HQ.out s2 q2 fs2 C2 _ ((HP8.out.below hb9).other (t := 36) H9.out.get1 (by decide) (by decide) (by decide) _) hi7 hu7 (H9.out.row 1 (stA s2 q2) _ rfl).below
set_option maxRecDepth 100000 in
set_option maxHeartbeats 16000000 in
theorem sfree_none {N n k : Nat} {ids : List Int} {c : Int} (s : Tx.St) (p : SP) (fs : List Fr) (C : Nat → ByteArray) (hS : SS N n k ids c s fs C) (t : Int) (b : ByteArray) (u : Nat → Nat) (hu : SI n C b u) (pg : Nat) (hpg : pg < n) (hp1 : 1 ≤ pg) (hno : ¬ 0 < u pg) (w : World) (h : PoolR w s p fs) :
    Calls Tryz.prog 10 #[storeV s p, .int .i64 t, .int .i64 (pg : Int)] w fun e w' => e = .returned (.tuple #[storeV s p, .int .i64 21]) ∧ Below w.heap.size w w' := by
  have hn := hS.pi.n1
  have HZ := Lib.hid hS.pi.zp
  have HBI := Lib.hid (fun W (hb : Below w.heap.size w W) => sbits_any s p fs C hS b u hu W (h.below hb))
  have HUS := Lib.hid (fun (v : Value) (B : Nat) (j : Nat) (hj : j < n) W (hv : OwnB B W v b.data.toList) => sused_any v b B j (by rw [hu.sz]; omega) (by omega) W hv)
  have HBT := Lib.hid hu.bt
  have HNO := Lib.hid hno
  clear h hS hu hno
  go_enter Tryz.func10, Tryz.ntmps10
  go_upto_region 1 with fail
  have H0 := Lib.hid (show BxL w.heap.size w [((stA s p), 36), (#[.int .i64 0, .int .i64 0, .int .i64 0, .slice none 0 0, .int .i64 0, .bool false, .int .i64 0, .int .i64 0, .int .i64 0, .int .i64 0, .string ⟨#[]⟩, .slice none 0 0, .int .i64 0, .slice none 0 0, .int .i64 0], 36)] ((w.alloc (.cells (stA s p) 36)).alloc (.cells #[.int .i64 0, .int .i64 0, .int .i64 0, .slice none 0 0, .int .i64 0, .bool false, .int .i64 0, .int .i64 0, .int .i64 0, .int .i64 0, .string ⟨#[]⟩, .slice none 0 0, .int .i64 0, .slice none 0 0, .int .i64 0] 36)) from (((BxL.nil (Below.refl w.heap.size w)).new (by simp) (stA s p) 36).new (by simp) #[.int .i64 0, .int .i64 0, .int .i64 0, .slice none 0 0, .int .i64 0, .bool false, .int .i64 0, .int .i64 0, .int .i64 0, .int .i64 0, .string ⟨#[]⟩, .slice none 0 0, .int .i64 0, .slice none 0 0, .int .i64 0] 36))
  obtain ⟨W0, hW0⟩ : ∃ W, W = ((w.alloc (.cells (stA s p) 36)).alloc (.cells #[.int .i64 0, .int .i64 0, .int .i64 0, .slice none 0 0, .int .i64 0, .bool false, .int .i64 0, .int .i64 0, .int .i64 0, .int .i64 0, .string ⟨#[]⟩, .slice none 0 0, .int .i64 0, .slice none 0 0, .int .i64 0] 36)) := ⟨_, rfl⟩
  rw [← hW0] at H0 ⊢
  clear hW0
  go_upto_region 2 with (first
    | (with_reducible refine listLoad (by kernel_rfl) 36 (.tmp 3) rfl w.heap.size rfl (stA s p) _ H0.out.get0 _ Tryz.underlying36 (by kernel_rfl) (by kernel_rfl) ?_)
    | (go_at_call 31; (refine (HBI.out _ H0.out.below).mono ?_); rintro e w4 ⟨s1, q1, fs1, v, g, rfl, hp4, hi4, hv4, hg4, hb4⟩)
    | (with_reducible refine wpList_store_new rfl 36 (.tmp 8) (.tmp 14) rfl (stA s1 q1) _ _ rfl (by kernel_rfl) (by kernel_rfl) (by kernel_rfl) (by kernel_rfl) ?_))
  have hb5 := hb4.trans ((allocB w4 (.cells (stA s1 q1) 36)).mono hb4.size)
  have H5 := Lib.hid (H0.out.step hb5)
  have HG5 := Lib.hid (heap_alloc_new w4 (.cells (stA s1 q1) 36))
  have HP5 := Lib.hid (hp4.below (allocB w4 (.cells (stA s1 q1) 36)))
  have HV5 := Lib.hid (hv4.below (allocB w4 (.cells (stA s1 q1) 36)))
  have HS5 := Lib.hid hi4
  have hg9 : g < w4.heap.size := by obtain ⟨cur, fr, h1⟩ := hv4.ty; exact heapLt h1
  have hM : w.heap.size + 2 ≤ W0.heap.size := H0.out.lt (i := 1) (by simp)
  obtain ⟨g9, hge⟩ : ∃ g, g = w4.heap.size := ⟨_, rfl⟩
  obtain ⟨w5, hw5⟩ : ∃ W, W = w4.alloc (.cells (stA s1 q1) 36) := ⟨_, rfl⟩
  rw [← hge, ← hw5] at HG5
  rw [← hw5] at H5 HP5 HV5
  rw [← hw5, ← hge]
  rw [← hge] at hg9
  have hB9 : w.heap.size + 2 ≤ g := by omega
  clear hw5 hge hb4 hb5 H0 HBI hp4 hi4 hv4 hg4 hM
  try simp only [Act.put]
  have HUJ := Lib.hid (fun W (hb : Below w5.heap.size w5 W) => HUS.out v _ pg hpg W (HV5.out.own.below hb))
  rw [HBT.out pg hpg, decide_eq_false HNO.out] at HUJ
  have hc1 := show w5.cell? ⟨w.heap.size, 1, none⟩ = some (.int .i64 (n : Int)) from by rw [blkCell H5.out.get0, ← HZ.out]; rfl
  have hp1i : ¬ (pg : Int) < 1 := by omega
  have hp2i : ¬ (n : Int) ≤ (pg : Int) := by omega
  have hp3i : (pg : Int) < (n : Int) := by omega
  go_wp2_with (first
    | (go_at_call 33; (refine (HUJ.out _ (Below.refl _ _)).mono ?_); rintro e w6 ⟨rfl, hb56⟩; have H6 := Lib.hid (H5.out.step hb56))
    | (with_reducible refine listLoad (by kernel_rfl) 36 (.tmp 3) rfl w.heap.size rfl (stA s p) _ H6.out.get0 _ Tryz.underlying36 (by kernel_rfl) (by kernel_rfl) ?_)
    | (with_reducible refine listStore (by kernel_rfl) 36 (.tmp 6) (.tmp 41) rfl (w.heap.size + 1) (stA s p) _ _ rfl rfl H6.out.get1 (by kernel_rfl) (by kernel_rfl) (by kernel_rfl) ?_))
  refine bodyPost_ret (v := .tuple #[.agg (stA s p), .int .i64 21]) (results_cell2 rfl _ _ rfl (load_whole (setRow_heap _ _ _ _ _ _ H6.out.get1) Tryz.underlying36 (by kernel_rfl) (by kernel_rfl)) rfl) rfl ?_
  exact ⟨rfl, (H6.out.row 1 (stA s p) _ rfl).below⟩
set_option maxRecDepth 100000 in
set_option maxHeartbeats 16000000 in
theorem sfree_arg {N n k : Nat} {ids : List Int} {c : Int} (s : Tx.St) (p : SP) (fs : List Fr) (C : Nat → ByteArray) (hS : SS N n k ids c s fs C) (t : Int) (b : ByteArray) (u : Nat → Nat) (hu : SI n C b u) (x : Int) (hx : x < 1 ∨ (n : Int) ≤ x) (w : World) (h : PoolR w s p fs) :
    Calls Tryz.prog 10 #[storeV s p, .int .i64 t, .int .i64 x] w fun e w' => e = .returned (.tuple #[storeV s p, .int .i64 1]) ∧ Below w.heap.size w w' := by
  have hn := hS.pi.n1
  have HZ := Lib.hid hS.pi.zp
  have HBI := Lib.hid (fun W (hb : Below w.heap.size w W) => sbits_any s p fs C hS b u hu W (h.below hb))
  have HUS := Lib.hid (fun (v : Value) (B : Nat) (j : Nat) (hj : j < n) W (hv : OwnB B W v b.data.toList) => sused_any v b B j (by rw [hu.sz]; omega) (by omega) W hv)
  have HBT := Lib.hid hu.bt
  clear h hS hu HUS HBT
  by_cases hx1 : x < 1
  · clear hx
    go_enter Tryz.func10, Tryz.ntmps10
    go_upto_region 1 with fail
    have H0 := Lib.hid (show BxL w.heap.size w [((stA s p), 36), (#[.int .i64 0, .int .i64 0, .int .i64 0, .slice none 0 0, .int .i64 0, .bool false, .int .i64 0, .int .i64 0, .int .i64 0, .int .i64 0, .string ⟨#[]⟩, .slice none 0 0, .int .i64 0, .slice none 0 0, .int .i64 0], 36)] ((w.alloc (.cells (stA s p) 36)).alloc (.cells #[.int .i64 0, .int .i64 0, .int .i64 0, .slice none 0 0, .int .i64 0, .bool false, .int .i64 0, .int .i64 0, .int .i64 0, .int .i64 0, .string ⟨#[]⟩, .slice none 0 0, .int .i64 0, .slice none 0 0, .int .i64 0] 36)) from (((BxL.nil (Below.refl w.heap.size w)).new (by simp) (stA s p) 36).new (by simp) #[.int .i64 0, .int .i64 0, .int .i64 0, .slice none 0 0, .int .i64 0, .bool false, .int .i64 0, .int .i64 0, .int .i64 0, .int .i64 0, .string ⟨#[]⟩, .slice none 0 0, .int .i64 0, .slice none 0 0, .int .i64 0] 36))
    obtain ⟨W0, hW0⟩ : ∃ W, W = ((w.alloc (.cells (stA s p) 36)).alloc (.cells #[.int .i64 0, .int .i64 0, .int .i64 0, .slice none 0 0, .int .i64 0, .bool false, .int .i64 0, .int .i64 0, .int .i64 0, .int .i64 0, .string ⟨#[]⟩, .slice none 0 0, .int .i64 0, .slice none 0 0, .int .i64 0] 36)) := ⟨_, rfl⟩
    rw [← hW0] at H0 ⊢
    clear hW0
    go_upto_region 2 with (first
      | (with_reducible refine listLoad (by kernel_rfl) 36 (.tmp 3) rfl w.heap.size rfl (stA s p) _ H0.out.get0 _ Tryz.underlying36 (by kernel_rfl) (by kernel_rfl) ?_)
      | (go_at_call 31; (refine (HBI.out _ H0.out.below).mono ?_); rintro e w4 ⟨s1, q1, fs1, v, g, rfl, hp4, hi4, hv4, hg4, hb4⟩)
      | (with_reducible refine wpList_store_new rfl 36 (.tmp 8) (.tmp 14) rfl (stA s1 q1) _ _ rfl (by kernel_rfl) (by kernel_rfl) (by kernel_rfl) (by kernel_rfl) ?_))
    have hb5 := hb4.trans ((allocB w4 (.cells (stA s1 q1) 36)).mono hb4.size)
    have H5 := Lib.hid (H0.out.step hb5)
    have HG5 := Lib.hid (heap_alloc_new w4 (.cells (stA s1 q1) 36))
    have HP5 := Lib.hid (hp4.below (allocB w4 (.cells (stA s1 q1) 36)))
    have HV5 := Lib.hid (hv4.below (allocB w4 (.cells (stA s1 q1) 36)))
    have HS5 := Lib.hid hi4
    have hg9 : g < w4.heap.size := by obtain ⟨cur, fr, h1⟩ := hv4.ty; exact heapLt h1
    have hM : w.heap.size + 2 ≤ W0.heap.size := H0.out.lt (i := 1) (by simp)
    obtain ⟨g9, hge⟩ : ∃ g, g = w4.heap.size := ⟨_, rfl⟩
    obtain ⟨w5, hw5⟩ : ∃ W, W = w4.alloc (.cells (stA s1 q1) 36) := ⟨_, rfl⟩
    rw [← hge, ← hw5] at HG5
    rw [← hw5] at H5 HP5 HV5
    rw [← hw5, ← hge]
    rw [← hge] at hg9
    have hB9 : w.heap.size + 2 ≤ g := by omega
    clear hw5 hge hb4 hb5 H0 HBI hp4 hi4 hv4 hg4 hM
    try simp only [Act.put]
    have hc1 := show w5.cell? ⟨w.heap.size, 1, none⟩ = some (.int .i64 (n : Int)) from by rw [blkCell H5.out.get0, ← HZ.out]; rfl
    go_wp2_with (first
      | (with_reducible refine listLoad (by kernel_rfl) 36 (.tmp 3) rfl w.heap.size rfl (stA s p) _ H5.out.get0 _ Tryz.underlying36 (by kernel_rfl) (by kernel_rfl) ?_)
      | (with_reducible refine listStore (by kernel_rfl) 36 (.tmp 6) (.tmp 35) rfl (w.heap.size + 1) (stA s p) _ _ rfl rfl H5.out.get1 (by kernel_rfl) (by kernel_rfl) (by kernel_rfl) ?_))
    refine bodyPost_ret (v := .tuple #[.agg (stA s p), .int .i64 1]) (results_cell2 rfl _ _ rfl (load_whole (setRow_heap _ _ _ _ _ _ H5.out.get1) Tryz.underlying36 (by kernel_rfl) (by kernel_rfl)) rfl) rfl ?_
    exact ⟨rfl, (H5.out.row 1 (stA s p) _ rfl).below⟩
  · have hx2 : (n : Int) ≤ x := by omega
    clear hx
    go_enter Tryz.func10, Tryz.ntmps10
    go_upto_region 1 with fail
    have H0 := Lib.hid (show BxL w.heap.size w [((stA s p), 36), (#[.int .i64 0, .int .i64 0, .int .i64 0, .slice none 0 0, .int .i64 0, .bool false, .int .i64 0, .int .i64 0, .int .i64 0, .int .i64 0, .string ⟨#[]⟩, .slice none 0 0, .int .i64 0, .slice none 0 0, .int .i64 0], 36)] ((w.alloc (.cells (stA s p) 36)).alloc (.cells #[.int .i64 0, .int .i64 0, .int .i64 0, .slice none 0 0, .int .i64 0, .bool false, .int .i64 0, .int .i64 0, .int .i64 0, .int .i64 0, .string ⟨#[]⟩, .slice none 0 0, .int .i64 0, .slice none 0 0, .int .i64 0] 36)) from (((BxL.nil (Below.refl w.heap.size w)).new (by simp) (stA s p) 36).new (by simp) #[.int .i64 0, .int .i64 0, .int .i64 0, .slice none 0 0, .int .i64 0, .bool false, .int .i64 0, .int .i64 0, .int .i64 0, .int .i64 0, .string ⟨#[]⟩, .slice none 0 0, .int .i64 0, .slice none 0 0, .int .i64 0] 36))
    obtain ⟨W0, hW0⟩ : ∃ W, W = ((w.alloc (.cells (stA s p) 36)).alloc (.cells #[.int .i64 0, .int .i64 0, .int .i64 0, .slice none 0 0, .int .i64 0, .bool false, .int .i64 0, .int .i64 0, .int .i64 0, .int .i64 0, .string ⟨#[]⟩, .slice none 0 0, .int .i64 0, .slice none 0 0, .int .i64 0] 36)) := ⟨_, rfl⟩
    rw [← hW0] at H0 ⊢
    clear hW0
    go_upto_region 2 with (first
      | (with_reducible refine listLoad (by kernel_rfl) 36 (.tmp 3) rfl w.heap.size rfl (stA s p) _ H0.out.get0 _ Tryz.underlying36 (by kernel_rfl) (by kernel_rfl) ?_)
      | (go_at_call 31; (refine (HBI.out _ H0.out.below).mono ?_); rintro e w4 ⟨s1, q1, fs1, v, g, rfl, hp4, hi4, hv4, hg4, hb4⟩)
      | (with_reducible refine wpList_store_new rfl 36 (.tmp 8) (.tmp 14) rfl (stA s1 q1) _ _ rfl (by kernel_rfl) (by kernel_rfl) (by kernel_rfl) (by kernel_rfl) ?_))
    have hb5 := hb4.trans ((allocB w4 (.cells (stA s1 q1) 36)).mono hb4.size)
    have H5 := Lib.hid (H0.out.step hb5)
    have HG5 := Lib.hid (heap_alloc_new w4 (.cells (stA s1 q1) 36))
    have HP5 := Lib.hid (hp4.below (allocB w4 (.cells (stA s1 q1) 36)))
    have HV5 := Lib.hid (hv4.below (allocB w4 (.cells (stA s1 q1) 36)))
    have HS5 := Lib.hid hi4
    have hg9 : g < w4.heap.size := by obtain ⟨cur, fr, h1⟩ := hv4.ty; exact heapLt h1
    have hM : w.heap.size + 2 ≤ W0.heap.size := H0.out.lt (i := 1) (by simp)
    obtain ⟨g9, hge⟩ : ∃ g, g = w4.heap.size := ⟨_, rfl⟩
    obtain ⟨w5, hw5⟩ : ∃ W, W = w4.alloc (.cells (stA s1 q1) 36) := ⟨_, rfl⟩
    rw [← hge, ← hw5] at HG5
    rw [← hw5] at H5 HP5 HV5
    rw [← hw5, ← hge]
    rw [← hge] at hg9
    have hB9 : w.heap.size + 2 ≤ g := by omega
    clear hw5 hge hb4 hb5 H0 HBI hp4 hi4 hv4 hg4 hM
    try simp only [Act.put]
    have hc1 := show w5.cell? ⟨w.heap.size, 1, none⟩ = some (.int .i64 (n : Int)) from by rw [blkCell H5.out.get0, ← HZ.out]; rfl
    go_wp2_with (first
      | (with_reducible refine listLoad (by kernel_rfl) 36 (.tmp 3) rfl w.heap.size rfl (stA s p) _ H5.out.get0 _ Tryz.underlying36 (by kernel_rfl) (by kernel_rfl) ?_)
      | (with_reducible refine listStore (by kernel_rfl) 36 (.tmp 6) (.tmp 35) rfl (w.heap.size + 1) (stA s p) _ _ rfl rfl H5.out.get1 (by kernel_rfl) (by kernel_rfl) (by kernel_rfl) ?_))
    refine bodyPost_ret (v := .tuple #[.agg (stA s p), .int .i64 1]) (results_cell2 rfl _ _ rfl (load_whole (setRow_heap _ _ _ _ _ _ H5.out.get1) Tryz.underlying36 (by kernel_rfl) (by kernel_rfl)) rfl) rfl ?_
    exact ⟨rfl, (H5.out.row 1 (stA s p) _ rfl).below⟩
set_option maxRecDepth 100000 in
set_option maxHeartbeats 16000000 in
theorem sused_all {N n k : Nat} {ids : List Int} {c : Int} (s : Tx.St) (p : SP) (fs : List Fr) (C : Nat → ByteArray) (hS : SS N n k ids c s fs C) (b : ByteArray) (u : Nat → Nat) (hu : SI n C b u) (w : World) (h : PoolR w s p fs) :
    Calls Tryz.prog 14 #[storeV s p] w (UdOut N n k ids c C (inUse u n) w) := by
  have hn := hS.pi.n1
  have HZ := Lib.hid hS.pi.zp
  have HBI := Lib.hid (fun W (hb : Below w.heap.size w W) => sbits_any s p fs C hS b u hu W (h.below hb))
  have HUS := Lib.hid (fun (v : Value) (B : Nat) (j : Nat) (hj : j < n) W (hv : OwnB B W v b.data.toList) => sused_any v b B j (by rw [hu.sz]; omega) (by omega) W hv)
  have HBT := Lib.hid hu.bt
  have HQ := Lib.hid (fun (s' : Tx.St) (q : SP) (fs' : List Fr) (v : Value) w' h1 h2 h3 h4 => show UdOut N n k ids c C (inUse u n) w (.returned (.tuple #[storeV s' q, v, .int .i64 0])) w' from ⟨s', q, fs', v, rfl, h1, h2, h3, h4⟩)
  generalize UdOut N n k ids c C (inUse u n) w = Q at HQ ⊢
  clear h hS hu
  go_enter Tryz.func14, Tryz.ntmps14
  go_upto_region 1 with fail
  have H0 := Lib.hid (show BxL w.heap.size w [((stA s p), 36), (#[.int .i64 0, .int .i64 0, .int .i64 0, .slice none 0 0, .int .i64 0, .bool false, .int .i64 0, .int .i64 0, .int .i64 0, .int .i64 0, .string ⟨#[]⟩, .slice none 0 0, .int .i64 0, .slice none 0 0, .int .i64 0], 36)] ((w.alloc (.cells (stA s p) 36)).alloc (.cells #[.int .i64 0, .int .i64 0, .int .i64 0, .slice none 0 0, .int .i64 0, .bool false, .int .i64 0, .int .i64 0, .int .i64 0, .int .i64 0, .string ⟨#[]⟩, .slice none 0 0, .int .i64 0, .slice none 0 0, .int .i64 0] 36)) from (((BxL.nil (Below.refl w.heap.size w)).new (by simp) (stA s p) 36).new (by simp) #[.int .i64 0, .int .i64 0, .int .i64 0, .slice none 0 0, .int .i64 0, .bool false, .int .i64 0, .int .i64 0, .int .i64 0, .int .i64 0, .string ⟨#[]⟩, .slice none 0 0, .int .i64 0, .slice none 0 0, .int .i64 0] 36))
  obtain ⟨W0, hW0⟩ : ∃ W, W = ((w.alloc (.cells (stA s p) 36)).alloc (.cells #[.int .i64 0, .int .i64 0, .int .i64 0, .slice none 0 0, .int .i64 0, .bool false, .int .i64 0, .int .i64 0, .int .i64 0, .int .i64 0, .string ⟨#[]⟩, .slice none 0 0, .int .i64 0, .slice none 0 0, .int .i64 0] 36)) := ⟨_, rfl⟩
  rw [← hW0] at H0 ⊢
  clear hW0
  go_upto_region 4 with (first
    | (with_reducible refine listLoad (by kernel_rfl) 36 (.tmp 1) rfl w.heap.size rfl (stA s p) _ H0.out.get0 _ Tryz.underlying36 (by kernel_rfl) (by kernel_rfl) ?_)
    | (go_at_call 31; (refine (HBI.out _ H0.out.below).mono ?_); rintro e w4 ⟨s1, q1, fs1, v, g, rfl, hp4, hi4, hv4, hg4, hb4⟩)
    | (with_reducible refine wpList_store_new rfl 36 (.tmp 5) (.tmp 13) rfl (stA s1 q1) _ _ rfl (by kernel_rfl) (by kernel_rfl) (by kernel_rfl) (by kernel_rfl) ?_))
  have hb5 := hb4.trans ((allocB w4 (.cells (stA s1 q1) 36)).mono hb4.size)
  have H5 := Lib.hid (H0.out.step hb5)
  have HG5 := Lib.hid (heap_alloc_new w4 (.cells (stA s1 q1) 36))
  have HP5 := Lib.hid (hp4.below (allocB w4 (.cells (stA s1 q1) 36)))
  have HV5 := Lib.hid (hv4.below (allocB w4 (.cells (stA s1 q1) 36)))
  have HS5 := Lib.hid hi4
  have hg9 : g < w4.heap.size := by obtain ⟨cur, fr, h1⟩ := hv4.ty; exact heapLt h1
  have hM : w.heap.size + 2 ≤ W0.heap.size := H0.out.lt (i := 1) (by simp)
  obtain ⟨g9, hge⟩ : ∃ g, g = w4.heap.size := ⟨_, rfl⟩
  obtain ⟨w5, hw5⟩ : ∃ W, W = w4.alloc (.cells (stA s1 q1) 36) := ⟨_, rfl⟩
  rw [← hge, ← hw5] at HG5
  rw [← hw5] at H5 HP5 HV5
  rw [← hw5, ← hge]
  rw [← hge] at hg9
  have hB9 : w.heap.size + 2 ≤ g := by omega
  clear hw5 hge hb4 hb5 H0 HBI hp4 hi4 hv4 hg4 hM
  try simp only [Act.put]
  have hlt9 : g9 < w5.heap.size := heapLt HG5.out
  have hc1 := show w5.cell? ⟨w.heap.size, 1, none⟩ = some (.int .i64 (n : Int)) from by rw [blkCell H5.out.get0, ← HZ.out]; rfl
  have HB5 := Lib.hid H5.out.below
  go_wp2_with fail
  clear hc1
  go_loopw [8, 26] (fun vv x wr => ∃ j : Nat, j ≤ n ∧ x = .int .i64 (j : Int) ∧ OwnL numC 1 3 w5.heap.size wr vv (inUse u j) ∧ Below w5.heap.size w5 wr) (fun _ x _ => n - (intOf x).toNat)
  case atStart => exact ⟨0, Nat.zero_le _, rfl, ownNil _ _ _ _, Below.refl _ _⟩
  case round =>
    obtain ⟨j, hj, rfl, hov, hbw⟩ := hrel
    have HBW := Lib.hid hbw
    have HOV := Lib.hid hov
    by_cases hlt : j < n
    · have hji : (j : Int) < (n : Int) := by omega
      have hwj : IntKind.i64.wrap ((j : Int) + 1) = (j : Int) + 1 := IntWalk.i64_in _ (by omega)
      have HUJ := Lib.hid (fun W (hb : Below wr.heap.size wr W) => HUS.out v _ j hlt W ((HV5.out.below hbw).own.below hb))
      have hil := inUse_len u j
      obtain ⟨A, ca, rfl, -⟩ := OwnL.form hov
      clear hbw hov
      by_cases huj : 0 < u j
      · rw [HBT.out j hlt, decide_eq_true huj] at HUJ
        have HIY := Lib.hid (inUse_yes huj)
        clear huj
        go_wp2_with (first
          | (go_at_call 33; (refine (HUJ.out _ (Below.refl _ _)).mono ?_); rintro e w6 ⟨rfl, hb6⟩; have HO6 := Lib.hid (ownBelow HOV.out hb6); have HB6 := Lib.hid (joinB HBW.out hb6))
          | (at_builtin; refine wpList_push (by kernel_rfl) (.tmp 32) (.tmp 34) 47 3 Tryz.underlying47 info_num rfl (by omega) (by omega) rfl w5.heap.size _ (inUse u j).length ((inUse u j).flatMap numC) rfl (ownBelow HO6.out (allocB _ _)) w6.heap.size (numC (j : Int)) 3 rfl (heap_alloc_new w6 _) rfl (by simp [numC, Value.oneCell']) (by omega) (Nat.le_trans HB6.out.size (allocB w6 _).size) ?_; intro v7 w7 ho7 hg7 hb7))
        go_roundw
        case rel => exact ⟨j + 1, by omega, by go_num, by rw [HIY.out]; exact OwnL.push (enc := numC) ho7, HB6.out.trans (((allocB w6 _).mono HB6.out.size).trans hb7)⟩
        case measure => simp [intOf]; omega
      · rw [HBT.out j hlt, decide_eq_false huj] at HUJ
        have HIN := Lib.hid (inUse_no huj)
        clear huj
        go_wp2_with (go_at_call 33; (refine (HUJ.out _ (Below.refl _ _)).mono ?_); rintro e w6 ⟨rfl, hb6⟩)
        go_roundw
        case rel => exact ⟨j + 1, by omega, by go_num, by rw [HIN.out]; exact ownBelow HOV.out hb6, joinB HBW.out hb6⟩
        case measure => simp [intOf]; omega
    · obtain rfl : j = n := by omega
      have H6 := Lib.hid (H5.out.step hbw)
      have HG6 := Lib.hid (blkOld HG5.out hbw)
      have HP6 := Lib.hid (HP5.out.below hbw)
      obtain ⟨A, ca, rfl, -⟩ := OwnL.form hov
      clear hbw hov
      go_wp2_with (first
        | (with_reducible refine listLoad (by kernel_rfl) 36 (.tmp 5) rfl g9 rfl (stA s1 q1) _ HG6.out _ Tryz.underlying36 (by kernel_rfl) (by kernel_rfl) ?_)
        | (with_reducible refine listStore (by kernel_rfl) 36 (.tmp 2) (.tmp 37) rfl (w.heap.size + 1) (stA s1 q1) _ _ rfl rfl H6.out.get1 (by kernel_rfl) (by kernel_rfl) (by kernel_rfl) ?_))
      refine bodyPost_ret (v := .tuple #[.agg (stA s1 q1), .slice A (inUse u j).length ca, .int .i64 0]) (results_cell3 rfl _ _ rfl (load_whole (setRow_heap _ _ _ _ _ _ H6.out.get1) Tryz.underlying36 (by kernel_rfl) (by kernel_rfl)) rfl rfl) rfl ?_
      exact HQ.out s1 q1 fs1 _ _ (HP6.out.other (t := 36) H6.out.get1 (by decide) (by decide) (by decide) _) HS5.out (ownMono (ownRowOff HOV.out _ _ (by omega)) HB5.out.size) (H6.out.row 1 (stA s1 q1) _ rfl).below
end Go.Proofs.YtmebkghdkeeobaaGreatDoor
