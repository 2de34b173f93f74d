import Derived.Test.YtmebkghdkeeobaaGreatDoorHo00
import Derived.Test.YtmebkghdkeeobaaGreatDoorHo23
set_option maxRecDepth 100000
set_option maxHeartbeats 16000000
set_option linter.unusedSimpArgs false
namespace Go.Proofs.YtmebkghdkeeobaaGreatDoor
open Go.RowKit Sc
def numC (n : Int) : List Value := [.int .i64 n]
theorem numC_len (n : Int) : (numC n).length = 1 := rfl
theorem info_num : (Tryz.prog.info? 3).map (fun i => (i.zero, i.size, i.bytes)) = some (some (.int .i64 0), 1, 8) := by kernel_rfl
def AcOut (N n k : Nat) (ids : List Int) (c : Int) (b : ByteArray) (u : Nat → Nat) (pg : Nat) (w : World) (e : Ending) (w' : World) : Prop :=
  ∃ (s' : Tx.St) (q : SP) (fs' : List Fr) (C' : Nat → ByteArray), e = .returned (.tuple #[storeV s' q, .int .i64 (pg : Int), .int .i64 0]) ∧ PoolR w' s' q fs' ∧ SS N n k ids c s' fs' C' ∧ SI n C' b u ∧ Below w.heap.size w w'
def FeOut (N n k : Nat) (ids : List Int) (c : Int) (b : ByteArray) (u : Nat → Nat) (w : World) (e : Ending) (w' : World) : Prop :=
  ∃ (s' : Tx.St) (q : SP) (fs' : List Fr) (C' : Nat → ByteArray), e = .returned (.tuple #[storeV s' q, .int .i64 0]) ∧ PoolR w' s' q fs' ∧ SS N n k ids c s' fs' C' ∧ SI n C' b u ∧ Below w.heap.size w w'
def UdOut (N n k : Nat) (ids : List Int) (c : Int) (C : Nat → ByteArray) (l : List Int) (w : World) (e : Ending) (w' : World) : Prop :=
  ∃ (s' : Tx.St) (q : SP) (fs' : List Fr) (v : Value), e = .returned (.tuple #[storeV s' q, v, .int .i64 0]) ∧ PoolR w' s' q fs' ∧ SS N n k ids c s' fs' C ∧ OwnL numC 1 3 w.heap.size w' v l ∧ Below w.heap.size w w'
set_option maxRecDepth 100000 in
set_option maxHeartbeats 16000000 in
theorem salloc_any {N n k : Nat} {ids : List Int} {c : Int} (s : Tx.St) (p : SP) (fs : List Fr) (C : Nat → ByteArray) (hS : SS N n k ids c s fs C) (hc : c + 5048 ≤ (N : Int) * 128) (t : Int) (ht : t ∈ ids) (htn : Rc.num t) (b : ByteArray) (u : Nat → Nat) (hu : SI n C b u) (kd : Nat) (hkd : 2 ≤ kd ∧ kd ≤ 4) (pg : Nat) (hpg : pg < n) (hup : Upto u pg) (hno : ¬ 0 < u pg) (w : World) (h : PoolR w s p fs) :
    Calls Tryz.prog 12 #[storeV s p, .int .i64 t, .int .i64 (kd : Int)] w (AcOut N n k ids (c + 5048) (flipB b pg) (fun q => if q = pg then kd else u q) pg w) := by
  have hn := hS.pi.n1
  have HZ := Lib.hid hS.pi.zp
  have HBI := Lib.hid (fun W (hb : Below w.heap.size w W) => sbits_any s p fs C hS b u hu W (h.below hb))
  have HUS := Lib.hid (fun (v : Value) (B : Nat) (j : Nat) (hj : j < n) W (hv : OwnB B W v b.data.toList) => sused_any v b B j (by rw [hu.sz]; omega) (by omega) W hv)
  have HBT := Lib.hid hu.bt
  have hp1 : 1 ≤ pg := by
    rcases Nat.eq_zero_or_pos pg with e | e
    · subst e; rw [hu.u0] at hno; exact absurd (by decide) hno
    · exact e
  have HFP := Lib.hid (fun (s1 : Tx.St) (q1 : SP) (fs1 : List Fr) (hS1 : SS N n k ids c s1 fs1 C) (v : Value) (B g : Nat) W (hv : OwnU B g W v b.data.toList) (hw : PoolR W s1 q1 fs1) => sflip_any s1 q1 fs1 C hS1 hc t ht htn b u hu pg hpg hp1 kd (by omega) ⟨fun _ => hno, fun _ => by omega⟩ v B g W hv hw)
  have HUP := Lib.hid hup
  have HNO := Lib.hid hno
  have HQ := Lib.hid (fun (s' : Tx.St) (q : SP) (fs' : List Fr) (C' : Nat → ByteArray) w' h1 h2 h3 h4 => show AcOut N n k ids (c + 5048) (flipB b pg) (fun q => if q = pg then kd else u q) pg w (.returned (.tuple #[storeV s' q, .int .i64 (pg : Int), .int .i64 0])) w' from ⟨s', q, fs', C', rfl, h1, h2, h3, h4⟩)
  generalize hAQ : AcOut N n k ids (c + 5048) (flipB b pg) (fun q => if q = pg then kd else u q) pg w = Q at HQ ⊢
  clear h hS hu hup hno hc ht htn hAQ
  have hk1 : ¬ (kd : Int) < 2 := by omega
  have hk2 : ¬ (4 : Int) < (kd : Int) := by omega
  go_enter Tryz.func12, Tryz.ntmps12
  go_upto_region 1 with fail
  have H0 := Lib.hid (show BxL w.heap.size w [((stA s p), 36), (#[.int .i64 0, .int .i64 0, .int .i64 0, .slice none 0 0, .int .i64 0, .bool false, .int .i64 0, .int .i64 0, .int .i64 0, .int .i64 0, .string ⟨#[]⟩, .slice none 0 0, .int .i64 0, .slice none 0 0, .int .i64 0], 36)] ((w.alloc (.cells (stA s p) 36)).alloc (.cells #[.int .i64 0, .int .i64 0, .int .i64 0, .slice none 0 0, .int .i64 0, .bool false, .int .i64 0, .int .i64 0, .int .i64 0, .int .i64 0, .string ⟨#[]⟩, .slice none 0 0, .int .i64 0, .slice none 0 0, .int .i64 0] 36)) from (((BxL.nil (Below.refl w.heap.size w)).new (by simp) (stA s p) 36).new (by simp) #[.int .i64 0, .int .i64 0, .int .i64 0, .slice none 0 0, .int .i64 0, .bool false, .int .i64 0, .int .i64 0, .int .i64 0, .int .i64 0, .string ⟨#[]⟩, .slice none 0 0, .int .i64 0, .slice none 0 0, .int .i64 0] 36))
  obtain ⟨W0, hW0⟩ : ∃ W, W = ((w.alloc (.cells (stA s p) 36)).alloc (.cells #[.int .i64 0, .int .i64 0, .int .i64 0, .slice none 0 0, .int .i64 0, .bool false, .int .i64 0, .int .i64 0, .int .i64 0, .int .i64 0, .string ⟨#[]⟩, .slice none 0 0, .int .i64 0, .slice none 0 0, .int .i64 0] 36)) := ⟨_, rfl⟩
  rw [← hW0] at H0 ⊢
  clear hW0
  go_upto_region 6 with (first
    | (with_reducible refine listLoad (by kernel_rfl) 36 (.tmp 3) rfl w.heap.size rfl (stA s p) _ H0.out.get0 _ Tryz.underlying36 (by kernel_rfl) (by kernel_rfl) ?_)
    | (go_at_call 31; (refine (HBI.out _ H0.out.below).mono ?_); rintro e w4 ⟨s1, q1, fs1, v, g, rfl, hp4, hi4, hv4, hg4, hb4⟩)
    | (with_reducible refine wpList_store_new rfl 36 (.tmp 9) (.tmp 23) rfl (stA s1 q1) _ _ rfl (by kernel_rfl) (by kernel_rfl) (by kernel_rfl) (by kernel_rfl) ?_))
  have hb5 := hb4.trans ((allocB w4 (.cells (stA s1 q1) 36)).mono hb4.size)
  have H5 := Lib.hid (H0.out.step hb5)
  have HG5 := Lib.hid (heap_alloc_new w4 (.cells (stA s1 q1) 36))
  have HP5 := Lib.hid (hp4.below (allocB w4 (.cells (stA s1 q1) 36)))
  have HV5 := Lib.hid (hv4.below (allocB w4 (.cells (stA s1 q1) 36)))
  have HS5 := Lib.hid hi4
  have hg9 : g < w4.heap.size := by obtain ⟨cur, fr, h1⟩ := hv4.ty; exact heapLt h1
  have hM : w.heap.size + 2 ≤ W0.heap.size := H0.out.lt (i := 1) (by simp)
  obtain ⟨g9, hge⟩ : ∃ g, g = w4.heap.size := ⟨_, rfl⟩
  obtain ⟨w5, hw5⟩ : ∃ W, W = w4.alloc (.cells (stA s1 q1) 36) := ⟨_, rfl⟩
  rw [← hge, ← hw5] at HG5
  rw [← hw5] at H5 HP5 HV5
  rw [← hw5, ← hge]
  rw [← hge] at hg9
  have hB9 : w.heap.size + 2 ≤ g := by omega
  clear hw5 hge hb4 hb5 H0 HBI hp4 hi4 hv4 hg4 hM
  try simp only [Act.put]
  have hc1 := show w5.cell? ⟨w.heap.size, 1, none⟩ = some (.int .i64 (n : Int)) from by rw [blkCell H5.out.get0, ← HZ.out]; rfl
  go_wp2_with fail
  go_loopw [12] (fun x wr => ∃ j : Nat, j ≤ pg ∧ x = .int .i64 (j : Int) ∧ Below w5.heap.size w5 wr) (fun x _ => pg - (intOf x).toNat)
  case atStart => exact ⟨0, Nat.zero_le _, rfl, Below.refl _ _⟩
  case round =>
    obtain ⟨j, hj, rfl, hbw⟩ := hrel
    have hc1 := show wr.cell? ⟨w.heap.size, 1, none⟩ = some (.int .i64 (n : Int)) from by rw [blkCell (H5.out.step hbw).get0, ← HZ.out]; rfl
    by_cases hlt : j < pg
    · have hjn : j < n := by omega
      have hji : (j : Int) < (n : Int) := by omega
      have HUJ := Lib.hid (fun W (hb : Below wr.heap.size wr W) => HUS.out v _ j hjn W ((HV5.out.below hbw).own.below hb))
      rw [HBT.out j hjn, decide_eq_true (HUP.out j hlt)] at HUJ
      have hwj : IntKind.i64.wrap ((j : Int) + 1) = (j : Int) + 1 := IntWalk.i64_in _ (by omega)
      have HBW := Lib.hid hbw
      clear hbw
      go_wp2_with (go_at_call 33; (refine (HUJ.out _ (Below.refl _ _)).mono ?_); rintro e w6 ⟨rfl, hb6⟩)
      go_roundw
      case rel => exact ⟨j + 1, by omega, by go_num, joinB HBW.out hb6⟩
      case measure => simp [intOf]; omega
    · obtain rfl : j = pg := by omega
      have hjn : j < n := hpg
      have hji : (j : Int) < (n : Int) := by omega
      have HUJ := Lib.hid (fun W (hb : Below wr.heap.size wr W) => HUS.out v _ j hjn W ((HV5.out.below hbw).own.below hb))
      rw [HBT.out j hjn, decide_eq_false HNO.out] at HUJ
      have hjb : ((j : Int) == (n : Int)) = false := beq_eq_false_iff_ne.2 (by omega)
      have HBW := Lib.hid hbw
      clear hbw
      have hlt9 : g9 < w5.heap.size := heapLt HG5.out
      go_upto_region 12 with (first
        | (go_at_call 33; (refine (HUJ.out _ (Below.refl _ _)).mono ?_); rintro e w6 ⟨rfl, hb6⟩; have hb56 := joinB HBW.out hb6; have H6 := Lib.hid (H5.out.step hb56); have HG6 := Lib.hid (blkOld HG5.out hb56); have hc2 := show w6.cell? ⟨w.heap.size, 1, none⟩ = some (.int .i64 (n : Int)) from (by rw [blkCell H6.out.get0, ← HZ.out]; rfl))
        | (with_reducible refine listLoad (by kernel_rfl) 36 (.tmp 9) rfl g9 rfl (stA s1 q1) _ HG6.out _ Tryz.underlying36 (by kernel_rfl) (by kernel_rfl) ?_)
        | (go_at_call 34; (refine (HFP.out s1 q1 fs1 HS5.out v _ g _ (HV5.out.below hb56) (HP5.out.below hb56)).mono ?_); rintro e w7 ⟨s2, q2, fs2, C2, rfl, hp7, hi7, hu7, hk7⟩; have H7 := Lib.hid (H6.out.under (M := w.heap.size + 2) (by simp) (hk7.below (by have := hb56.size; omega) hB9)); have HG7 := Lib.hid ((hk7.block g9 (by have := hb56.size; omega) (by omega)).trans HG6.out))
        | (with_reducible refine listStore (by kernel_rfl) 36 (.tmp 9) (.tmp 58) rfl g9 (stA s2 q2) _ _ rfl rfl HG7.out (by kernel_rfl) (by kernel_rfl) (by kernel_rfl) ?_))
      have H8 := Lib.hid (H7.out.under (M := w.heap.size + 2) (by simp) (rowB (g := g9) (by omega) (show Below (w.heap.size + 2) w7 w7 from ⟨rfl, rfl, rfl, Nat.le_refl _, fun _ _ => rfl⟩) (stA s2 q2)))
      have HG8 := Lib.hid (setRow_heap _ _ _ (stA s2 q2) _ _ HG7.out)
      have HP8 := Lib.hid (hp7.other (t := 36) HG7.out (by decide) (by decide) (by decide) (stA s2 q2))
      generalize w7.setRow g9 (stA s2 q2) = w8 at H8 HG8 HP8 ⊢
      clear H6 HG6 H7 HG7 hp7 hk7 hb6 hb56 HFP HUS HUJ H5 HG5 HP5 HV5
      try simp only [Act.put]
      go_wp2_with (first
        | (with_reducible refine listLoad (by kernel_rfl) 36 (.tmp 9) rfl g9 rfl (stA s2 q2) _ HG8.out _ Tryz.underlying36 (by kernel_rfl) (by kernel_rfl) ?_)
        | (with_reducible refine listStore (by kernel_rfl) 36 (.tmp 6) (.tmp 67) rfl (w.heap.size + 1) (stA s2 q2) _ _ rfl rfl H8.out.get1 (by kernel_rfl) (by kernel_rfl) (by kernel_rfl) ?_))
      refine bodyPost_ret (v := .tuple #[.agg (stA s2 q2), .int .i64 (j : Int), .int .i64 0]) (results_cell3 rfl _ _ rfl (load_whole (setRow_heap _ _ _ _ _ _ H8.out.get1) Tryz.underlying36 (by kernel_rfl) (by kernel_rfl)) rfl rfl) rfl ?_
      exact HQ.out s2 q2 fs2 C2 _ (HP8.out.other (t := 36) H8.out.get1 (by decide) (by decide) (by decide) _) hi7 hu7 (H8.out.row 1 (stA s2 q2) _ rfl).below
set_option maxRecDepth 100000 in
set_option maxHeartbeats 16000000 in
theorem salloc_full {N n k : Nat} {ids : List Int} {c : Int} (s : Tx.St) (p : SP) (fs : List Fr) (C : Nat → ByteArray) (hS : SS N n k ids c s fs C) (b : ByteArray) (u : Nat → Nat) (hu : SI n C b u) (t : Int) (kd : Nat) (hkd : 2 ≤ kd ∧ kd ≤ 4) (hup : Upto u n) (w : World) (h : PoolR w s p fs) :
    Calls Tryz.prog 12 #[storeV s p, .int .i64 t, .int .i64 (kd : Int)] w fun e w' => e = .returned (.tuple #[storeV s p, .int .i64 0, .int .i64 18]) ∧ Below w.heap.size w w' := by
  have hn := hS.pi.n1
  have HZ := Lib.hid hS.pi.zp
  have HBI := Lib.hid (fun W (hb : Below w.heap.size w W) => sbits_any s p fs C hS b u hu W (h.below hb))
  have HUS := Lib.hid (fun (v : Value) (B : Nat) (j : Nat) (hj : j < n) W (hv : OwnB B W v b.data.toList) => sused_any v b B j (by rw [hu.sz]; omega) (by omega) W hv)
  have HBT := Lib.hid hu.bt
  obtain ⟨pg, hpe⟩ : ∃ pg, pg = n := ⟨_, rfl⟩
  have hpg : pg ≤ n := by omega
  have hup2 : Upto u pg := by rw [hpe]; exact hup
  have HUP := Lib.hid hup2
  clear h hS hu hup hup2
  have hk1 : ¬ (kd : Int) < 2 := by omega
  have hk2 : ¬ (4 : Int) < (kd : Int) := by omega
  go_enter Tryz.func12, Tryz.ntmps12
  go_upto_region 1 with fail
  have H0 := Lib.hid (show BxL w.heap.size w [((stA s p), 36), (#[.int .i64 0, .int .i64 0, .int .i64 0, .slice none 0 0, .int .i64 0, .bool false, .int .i64 0, .int .i64 0, .int .i64 0, .int .i64 0, .string ⟨#[]⟩, .slice none 0 0, .int .i64 0, .slice none 0 0, .int .i64 0], 36)] ((w.alloc (.cells (stA s p) 36)).alloc (.cells #[.int .i64 0, .int .i64 0, .int .i64 0, .slice none 0 0, .int .i64 0, .bool false, .int .i64 0, .int .i64 0, .int .i64 0, .int .i64 0, .string ⟨#[]⟩, .slice none 0 0, .int .i64 0, .slice none 0 0, .int .i64 0] 36)) from (((BxL.nil (Below.refl w.heap.size w)).new (by simp) (stA s p) 36).new (by simp) #[.int .i64 0, .int .i64 0, .int .i64 0, .slice none 0 0, .int .i64 0, .bool false, .int .i64 0, .int .i64 0, .int .i64 0, .int .i64 0, .string ⟨#[]⟩, .slice none 0 0, .int .i64 0, .slice none 0 0, .int .i64 0] 36))
  obtain ⟨W0, hW0⟩ : ∃ W, W = ((w.alloc (.cells (stA s p) 36)).alloc (.cells #[.int .i64 0, .int .i64 0, .int .i64 0, .slice none 0 0, .int .i64 0, .bool false, .int .i64 0, .int .i64 0, .int .i64 0, .int .i64 0, .string ⟨#[]⟩, .slice none 0 0, .int .i64 0, .slice none 0 0, .int .i64 0] 36)) := ⟨_, rfl⟩
  rw [← hW0] at H0 ⊢
  clear hW0
  go_upto_region 6 with (first
    | (with_reducible refine listLoad (by kernel_rfl) 36 (.tmp 3) rfl w.heap.size rfl (stA s p) _ H0.out.get0 _ Tryz.underlying36 (by kernel_rfl) (by kernel_rfl) ?_)
    | (go_at_call 31; (refine (HBI.out _ H0.out.below).mono ?_); rintro e w4 ⟨s1, q1, fs1, v, g, rfl, hp4, hi4, hv4, hg4, hb4⟩)
    | (with_reducible refine wpList_store_new rfl 36 (.tmp 9) (.tmp 23) rfl (stA s1 q1) _ _ rfl (by kernel_rfl) (by kernel_rfl) (by kernel_rfl) (by kernel_rfl) ?_))
  have hb5 := hb4.trans ((allocB w4 (.cells (stA s1 q1) 36)).mono hb4.size)
  have H5 := Lib.hid (H0.out.step hb5)
  have HG5 := Lib.hid (heap_alloc_new w4 (.cells (stA s1 q1) 36))
  have HP5 := Lib.hid (hp4.below (allocB w4 (.cells (stA s1 q1) 36)))
  have HV5 := Lib.hid (hv4.below (allocB w4 (.cells (stA s1 q1) 36)))
  have HS5 := Lib.hid hi4
  have hg9 : g < w4.heap.size := by obtain ⟨cur, fr, h1⟩ := hv4.ty; exact heapLt h1
  have hM : w.heap.size + 2 ≤ W0.heap.size := H0.out.lt (i := 1) (by simp)
  obtain ⟨g9, hge⟩ : ∃ g, g = w4.heap.size := ⟨_, rfl⟩
  obtain ⟨w5, hw5⟩ : ∃ W, W = w4.alloc (.cells (stA s1 q1) 36) := ⟨_, rfl⟩
  rw [← hge, ← hw5] at HG5
  rw [← hw5] at H5 HP5 HV5
  rw [← hw5, ← hge]
  rw [← hge] at hg9
  have hB9 : w.heap.size + 2 ≤ g := by omega
  clear hw5 hge hb4 hb5 H0 HBI hp4 hi4 hv4 hg4 hM
  try simp only [Act.put]
  have hc1 := show w5.cell? ⟨w.heap.size, 1, none⟩ = some (.int .i64 (n : Int)) from by rw [blkCell H5.out.get0, ← HZ.out]; rfl
  go_wp2_with fail
  go_loopw [12] (fun x wr => ∃ j : Nat, j ≤ pg ∧ x = .int .i64 (j : Int) ∧ Below w5.heap.size w5 wr) (fun x _ => pg - (intOf x).toNat)
  case atStart => exact ⟨0, Nat.zero_le _, rfl, Below.refl _ _⟩
  case round =>
    obtain ⟨j, hj, rfl, hbw⟩ := hrel
    have hc1 := show wr.cell? ⟨w.heap.size, 1, none⟩ = some (.int .i64 (n : Int)) from by rw [blkCell (H5.out.step hbw).get0, ← HZ.out]; rfl
    by_cases hlt : j < pg
    · have hjn : j < n := by omega
      have hji : (j : Int) < (n : Int) := by omega
      have HUJ := Lib.hid (fun W (hb : Below wr.heap.size wr W) => HUS.out v _ j hjn W ((HV5.out.below hbw).own.below hb))
      rw [HBT.out j hjn, decide_eq_true (HUP.out j hlt)] at HUJ
      have hwj : IntKind.i64.wrap ((j : Int) + 1) = (j : Int) + 1 := IntWalk.i64_in _ (by omega)
      have HBW := Lib.hid hbw
      clear hbw
      go_wp2_with (go_at_call 33; (refine (HUJ.out _ (Below.refl _ _)).mono ?_); rintro e w6 ⟨rfl, hb6⟩)
      go_roundw
      case rel => exact ⟨j + 1, by omega, by go_num, joinB HBW.out hb6⟩
      case measure => simp [intOf]; omega
    · obtain rfl : j = pg := by omega
      have hji : ¬ (j : Int) < (n : Int) := by omega
      have hjb : ((j : Int) == (n : Int)) = true := beq_iff_eq.2 (by omega)
      have HBW := Lib.hid hbw
      have H6 := Lib.hid (H5.out.step hbw)
      clear hbw hpe
      go_wp2_with (first
        | (with_reducible refine listLoad (by kernel_rfl) 36 (.tmp 3) rfl w.heap.size rfl (stA s p) _ H6.out.get0 _ Tryz.underlying36 (by kernel_rfl) (by kernel_rfl) ?_)
        | (with_reducible refine listStore (by kernel_rfl) 36 (.tmp 6) (.tmp 50) rfl (w.heap.size + 1) (stA s p) _ _ rfl rfl H6.out.get1 (by kernel_rfl) (by kernel_rfl) (by kernel_rfl) ?_))
      refine bodyPost_ret (v := .tuple #[.agg (stA s p), .int .i64 0, .int .i64 18]) (results_cell3 rfl _ _ rfl (load_whole (setRow_heap _ _ _ _ _ _ H6.out.get1) Tryz.underlying36 (by kernel_rfl) (by kernel_rfl)) rfl rfl) rfl ?_
      exact ⟨rfl, (H6.out.row 1 (stA s p) _ rfl).below⟩
end Go.Proofs.YtmebkghdkeeobaaGreatDoor
