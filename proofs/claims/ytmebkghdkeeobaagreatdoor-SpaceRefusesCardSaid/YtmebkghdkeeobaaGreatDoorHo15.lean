import Derived.Test.YtmebkghdkeeobaaGreatDoorHo00
import Derived.Test.YtmebkghdkeeobaaGreatDoorHo14
import Derived.Test.YtmebkghdkeeobaaGreatDoorHo09
import Derived.Test.YtmebkghdkeeobaaGreatDoorHo02
import Derived.Test.YtmebkghdkeeobaaGreatDoorHo13
import Derived.Test.YtmebkghdkeeobaaGreatDoorHo01
set_option maxRecDepth 100000
set_option maxHeartbeats 16000000
set_option linter.unusedSimpArgs false
namespace Go.Proofs.YtmebkghdkeeobaaGreatDoor
open Go.RowKit Sc
set_option maxRecDepth 100000 in
set_option maxHeartbeats 8000000 in
theorem psector_any (s : Tx.St) (p : SP) (N n : Nat) (hz : s.zlog = (N : Int)) (hN : N ≤ 3000) (hn : n ≤ 1000) (w : World) :
    Calls Tryz.prog 102 #[storeV s p, .int .i64 (n : Int)] w fun e w' => e = .returned (.int .i64 ((1 + N + 4 * n : Nat) : Int)) ∧ Below w.heap.size w w' := by
  have hw1 : IntKind.i64.wrap (1 + (N : Int)) = 1 + (N : Int) := IntWalk.i64_in _ (by omega)
  have hw2 : IntKind.i64.wrap (4 * (n : Int)) = 4 * (n : Int) := IntWalk.i64_in _ (by omega)
  have hw3 : IntKind.i64.wrap (1 + (N : Int) + 4 * (n : Int)) = 1 + (N : Int) + 4 * (n : Int) := IntWalk.i64_in _ (by omega)
  have HZ := Lib.hid hz
  clear hz
  go_enter Tryz.func102, Tryz.ntmps102
  go_upto_region 1 with fail
  have HG := Lib.hid (heap_alloc_new w (.cells (stA s p) 36))
  have HB := Lib.hid (allocB w (.cells (stA s p) 36))
  obtain ⟨W0, hW0⟩ : ∃ W, W = w.alloc (.cells (stA s p) 36) := ⟨_, rfl⟩
  rw [← hW0] at HG HB ⊢
  clear hW0
  have hc := show W0.cell? ⟨w.heap.size, 0, none⟩ = some (.int .i64 (N : Int)) from by rw [blkCell HG.out]; show some (Value.int .i64 s.zlog) = _; rw [HZ.out]
  go_wp2_with fail
  go_ret
  exact ⟨congrArg (fun x => Ending.returned (.int .i64 x)) (by omega), HB.out⟩
set_option maxRecDepth 100000 in
set_option maxHeartbeats 8000000 in
theorem phas_any (s : Tx.St) (p : SP) (n : Nat) (hz : s.zpages = (n : Int)) (x : Int) (w : World) :
    Calls Tryz.prog 62 #[storeV s p, .int .i64 x] w fun e w' => e = .returned (.bool (decide (0 ≤ x ∧ x < (n : Int)))) ∧ Below w.heap.size w w' := by
  have HZ := Lib.hid hz
  clear hz
  have HG := Lib.hid (heap_alloc_new w (.cells (stA s p) 36))
  have HB := Lib.hid (allocB w (.cells (stA s p) 36))
  have HC := Lib.hid (show (w.alloc (.cells (stA s p) 36)).cell? ⟨w.heap.size, 1, none⟩ = some (.int .i64 (n : Int)) from by rw [blkCell HG.out]; show some (Value.int .i64 s.zpages) = _; rw [HZ.out])
  by_cases h0 : 0 ≤ x
  · by_cases h1 : x < (n : Int)
    · rw [decide_eq_true (show 0 ≤ x ∧ x < (n : Int) from ⟨h0, h1⟩)]
      go_enter Tryz.func62, Tryz.ntmps62
      go_upto_region 1 with fail
      have hc := HC.out
      go_wp2_with fail
      go_ret
      exact ⟨by simp [h0, h1], HB.out⟩
    · rw [decide_eq_false (show ¬ (0 ≤ x ∧ x < (n : Int)) from fun h => h1 h.2)]
      go_enter Tryz.func62, Tryz.ntmps62
      go_upto_region 1 with fail
      have hc := HC.out
      go_wp2_with fail
      go_ret
      exact ⟨by simp [h0, h1], HB.out⟩
  · rw [decide_eq_false (show ¬ (0 ≤ x ∧ x < (n : Int)) from fun h => h0 h.1)]
    go_enter Tryz.func62, Tryz.ntmps62
    go_upto_region 1 with fail
    go_wp2_with fail
    go_ret
    exact ⟨by simp [h0], HB.out⟩
set_option maxRecDepth 100000 in
set_option maxHeartbeats 8000000 in
theorem pbare_any (b : ByteArray) (hb : b.size ≤ 140737488355328) (w : World) :
    Calls Tryz.prog 104 #[.string b] w fun e w' => e = .returned (.string (plB b)) ∧ Below w.heap.size w w' := by
  have HL := Lib.hid (fun W => lsn_any b hb W)
  have HS := Lib.hid (fun W => show Calls Tryz.prog 18 #[.string b, .int .i64 ((leafP b).lsn : Nat)] W fun e w' => e = .returned (.string (plB b)) ∧ Below W.heap.size W w' from setlsn_any b ((leafP b).lsn : Nat) hb W)
  generalize plB b = q at HS ⊢
  generalize ((leafP b).lsn : Nat) = l at HL HS
  go_enter Tryz.func104, Tryz.ntmps104
  go_wp2_with (first
    | (go_at_call 138; (with_reducible refine (HL.out _).mono ?_); rintro e w1 ⟨rfl, hb1⟩)
    | (go_at_call 18; (with_reducible refine (HS.out _).mono ?_); rintro e w2 ⟨rfl, hb2⟩))
  go_ret
  exact ⟨rfl, joinB hb1 hb2⟩
theorem says_t {p : Prop} {w w' : World} (hp : p) (hb : Below w.heap.size w w') : Says p w (.returned (.bool true)) w' := ⟨true, rfl, ⟨fun _ => hp, fun _ => rfl⟩, hb⟩
theorem says_f {p : Prop} {w w' : World} (hp : ¬ p) (hb : Below w.heap.size w w') : Says p w (.returned (.bool false)) w' := ⟨false, rfl, ⟨(fun h => by cases h), fun h => absurd h hp⟩, hb⟩
set_option maxRecDepth 100000 in
set_option maxHeartbeats 8000000 in
theorem pfree_any (f : Fr) (w : World) : Calls Tryz.prog 99 #[.agg (frA f)] w (Says (¬ Full f) w) := by
  obtain ⟨fp, fb, fi, fm, fr⟩ := f
  by_cases h : fb = ⟨#[]⟩
  · have HY := Lib.hid (fun w' hb => says_t (p := ¬ Full ⟨fp, fb, fi, fm, fr⟩) (w := w) (w' := w') (fun hn => hn h) hb)
    generalize Says (¬ Full ⟨fp, fb, fi, fm, fr⟩) w = Q at HY ⊢
    subst h
    dsimp only [frA]
    have hq0 := str_nil
    go_enter Tryz.func99, Tryz.ntmps99
    go_wp2_with fail
    exact HY.out _ (allocB _ _)
  · have HY := Lib.hid (fun w' hb => says_f (p := ¬ Full ⟨fp, fb, fi, fm, fr⟩) (w := w) (w' := w') (fun hn => hn h) hb)
    generalize Says (¬ Full ⟨fp, fb, fi, fm, fr⟩) w = Q at HY ⊢
    obtain ⟨z1, z2, z3⟩ := str_ne h
    clear h
    dsimp only [frA]
    go_enter Tryz.func99, Tryz.ntmps99
    go_wp2_with fail
    exact HY.out _ (allocB _ _)
set_option maxRecDepth 100000 in
set_option maxHeartbeats 8000000 in
theorem pat_clo (f : Fr) (x : Int) (b : Nat) (w : World) (hc : w.cell? ⟨b, 0, none⟩ = some (.int .i64 x)) : Calls Tryz.prog 98 #[.agg (frA f), .pointer (some ⟨b, 0, none⟩)] w (Says (Full f ∧ f.page = x) w) := by
  have HF := Lib.hid (fun W => pfree_any f W)
  have HC := Lib.hid hc
  clear hc
  have hbl : b < w.heap.size := by
    rcases Nat.lt_or_ge b w.heap.size with h | h
    · exact h
    · have h1 := HC.out
      rw [World.cell?, Array.getElem?_eq_none h] at h1
      cases h1
  have HCC := Lib.hid (fun W (hb : Below w.heap.size w W) => show W.cell? ⟨b, 0, none⟩ = some (.int .i64 x) from by rw [hb.cell (p := ⟨b, 0, none⟩) hbl]; exact HC.out)
  have HT := Lib.hid (fun w' hb h => says_t (p := Full f ∧ f.page = x) (w := w) (w' := w') h hb)
  have HN := Lib.hid (fun w' hb h => says_f (p := Full f ∧ f.page = x) (w := w) (w' := w') h hb)
  by_cases hf : Full f
  · by_cases hx : f.page = x
    · have HQ := Lib.hid (fun w' hb => HT.out w' hb ⟨hf, hx⟩)
      generalize Says (Full f ∧ f.page = x) w = Q at HQ ⊢
      have hpx : (f.page == x) = true := by rw [hx]; exact beq_self_eq_true _
      have HNF := Lib.hid hf
      clear hf hx HT HN
      go_enter Tryz.func98, Tryz.ntmps98
      go_upto_region 1 with fail
      have HG := Lib.hid (heap_alloc_new w (.cells (frA f) 80))
      have HB := Lib.hid (allocB w (.cells (frA f) 80))
      obtain ⟨W0, hW0⟩ : ∃ W, W = w.alloc (.cells (frA f) 80) := ⟨_, rfl⟩
      rw [← hW0] at HG HB ⊢
      clear hW0
      go_wp2_with (first
        | (with_reducible refine listLoad (by kernel_rfl) 80 (.tmp 2) rfl w.heap.size rfl (frA f) _ HG.out _ Tryz.underlying80 (by kernel_rfl) (by kernel_rfl) ?_)
        | (go_at_call 99; (refine (HF.out _).mono ?_); rintro e w1 ⟨q, rfl, hq, hb1⟩; obtain rfl : q = false := (by cases q with | true => exact absurd HNF.out (hq.1 rfl) | false => rfl); clear hq; have hp1 := show w1.cell? ⟨w.heap.size, 0, none⟩ = some (.int .i64 f.page) from (by rw [blkCell (blkOld HG.out hb1)]; rfl); have hx1 := HCC.out w1 (joinB HB.out hb1)))
      exact HQ.out _ (joinB HB.out hb1)
    · have HQ := Lib.hid (fun w' hb => HN.out w' hb fun h => hx h.2)
      generalize Says (Full f ∧ f.page = x) w = Q at HQ ⊢
      have hpx : (f.page == x) = false := beq_eq_false_iff_ne.2 hx
      have HNF := Lib.hid hf
      clear hf hx HT HN
      go_enter Tryz.func98, Tryz.ntmps98
      go_upto_region 1 with fail
      have HG := Lib.hid (heap_alloc_new w (.cells (frA f) 80))
      have HB := Lib.hid (allocB w (.cells (frA f) 80))
      obtain ⟨W0, hW0⟩ : ∃ W, W = w.alloc (.cells (frA f) 80) := ⟨_, rfl⟩
      rw [← hW0] at HG HB ⊢
      clear hW0
      go_wp2_with (first
        | (with_reducible refine listLoad (by kernel_rfl) 80 (.tmp 2) rfl w.heap.size rfl (frA f) _ HG.out _ Tryz.underlying80 (by kernel_rfl) (by kernel_rfl) ?_)
        | (go_at_call 99; (refine (HF.out _).mono ?_); rintro e w1 ⟨q, rfl, hq, hb1⟩; obtain rfl : q = false := (by cases q with | true => exact absurd HNF.out (hq.1 rfl) | false => rfl); clear hq; have hp1 := show w1.cell? ⟨w.heap.size, 0, none⟩ = some (.int .i64 f.page) from (by rw [blkCell (blkOld HG.out hb1)]; rfl); have hx1 := HCC.out w1 (joinB HB.out hb1)))
      exact HQ.out _ (joinB HB.out hb1)
  · have HQ := Lib.hid (fun w' hb => HN.out w' hb fun h => hf h.1)
    generalize Says (Full f ∧ f.page = x) w = Q at HQ ⊢
    have HNF := Lib.hid hf
    clear hf HT HN
    go_enter Tryz.func98, Tryz.ntmps98
    go_upto_region 1 with fail
    have HG := Lib.hid (heap_alloc_new w (.cells (frA f) 80))
    have HB := Lib.hid (allocB w (.cells (frA f) 80))
    obtain ⟨W0, hW0⟩ : ∃ W, W = w.alloc (.cells (frA f) 80) := ⟨_, rfl⟩
    rw [← hW0] at HG HB ⊢
    clear hW0
    go_wp2_with (first
      | (with_reducible refine listLoad (by kernel_rfl) 80 (.tmp 2) rfl w.heap.size rfl (frA f) _ HG.out _ Tryz.underlying80 (by kernel_rfl) (by kernel_rfl) ?_)
      | (go_at_call 99; (refine (HF.out _).mono ?_); rintro e w1 ⟨q, rfl, hq, hb1⟩; obtain rfl : q = true := hq.2 HNF.out; clear hq))
    exact HQ.out _ (joinB HB.out hb1)
set_option maxRecDepth 100000 in
set_option maxHeartbeats 8000000 in
theorem pat_any (s : Tx.St) (p : SP) (fs : List Fr) (hl : fs.length ≤ 1000) (x : Int) (w : World) (h : PoolR w s p fs) :
    Calls Tryz.prog 63 #[storeV s p, .int .i64 x] w (FirstAt (fun f => Full f ∧ f.page = x) fs w) := by
  have HI := Lib.hid (fun (b : Nat) W (hb : Below w.heap.size w W) (hc : W.cell? ⟨b, 0, none⟩ = some (.int .i64 x)) (hbl : b < W.heap.size) => indexF_any (fun f => Full f ∧ f.page = x) 98 #[.pointer (some ⟨b, 0, none⟩)] (enters_of Tryz.func98 (by kernel_rfl) rfl) fs (by omega) p.F p.fc W (h.fr.below hb) (fun f _ V hV => pat_clo f x b V (by rw [hV.cell (p := ⟨b, 0, none⟩) hbl]; exact hc)))
  have HFN := Lib.hid h.fn
  have HQ := Lib.hid (fun W e w' (hb : Below w.heap.size w W) (hf : FirstAt (fun f => Full f ∧ f.page = x) fs W e w') => show FirstAt (fun f => Full f ∧ f.page = x) fs w e w' from by
    obtain ⟨k, h1, h2, h3⟩ := hf
    exact ⟨k, h1, h2, joinB hb h3⟩)
  generalize FirstAt (fun f => Full f ∧ f.page = x) fs w = Q at HQ ⊢
  clear h
  go_enter Tryz.func63, Tryz.ntmps63
  go_upto_region 1 with fail
  have H0 := Lib.hid (show BxL w.heap.size w [((stA s p), 36), (#[.int .i64 x], 3)] ((w.alloc (.cells (stA s p) 36)).alloc (.cells #[.int .i64 x] 3)) from (((BxL.nil (Below.refl w.heap.size w)).new (by simp) (stA s p) 36).new (by simp) #[.int .i64 x] 3))
  obtain ⟨W0, hW0⟩ : ∃ W, W = ((w.alloc (.cells (stA s p) 36)).alloc (.cells #[.int .i64 x] 3)) := ⟨_, rfl⟩
  rw [← hW0] at H0 ⊢
  clear hW0
  have hc := show W0.cell? ⟨w.heap.size, 11, none⟩ = some (.slice p.F fs.length p.fc) from by rw [blkCell H0.out.get0, ← HFN.out]; rfl
  have HIX := Lib.hid (HI.out (w.heap.size + 1) W0 H0.out.below (by rw [blkCell H0.out.get1]; rfl) (H0.out.lt (i := 1) (by simp)))
  go_wp2_with (go_at_call 97; (refine HIX.out.mono ?_); rintro e w1 ⟨k, rfl, hk, hb1⟩)
  exact HQ.out W0 _ _ H0.out.below ⟨k, rfl, hk, hb1⟩
theorem wpPut {P : Program} {op : Oper} {a : Act} {w : World} {K : Act → World → Prop} {Q : Exit → Act → World → Prop} (ty : TypeId) (x y : Operand) (ho : op.op = .store ty x y)
    (b o : Nat) (part cur res : Array Value) (t : TypeId) (hx : a.eval x = .pointer (some ⟨b, o, none⟩)) (hy : a.eval y = .agg part) (hg : w.heap[b]? = some (.cells cur t (0, 0))) (hr : res = (cur.toList.take o ++ part.toList ++ cur.toList.drop (o + part.toList.length)).toArray)
    (hsz : decide (o + part.toList.length ≤ cur.size) = true) (hi : (P.info? ty).map (·.size) = some part.size) (h1 : part.all (·.oneCell') = true) (h : K (a.put op.dst undef) (w.setRow b res)) : op.wp P a w K Q := by
  have hst := run_storeCells_at P b o t part.toList 0 cur w hg (by rw [Nat.add_zero]; exact of_decide_eq_true hsz) (fun v hv => (Array.all_eq_true_iff_forall_mem.1 h1) v (by simpa using hv))
  rw [Nat.add_zero, ← hr] at hst
  have hrun : (storeVar ty ⟨b, o, none⟩ (.agg part)).run P w = .ok () (w.setRow b res) := by
    cases hq : P.info? ty with
    | none => simp [hq] at hi
    | some i =>
      have hs : part.size = i.size := by simp [hq] at hi; omega
      simp [storeVar, sizeOf, typeInfo, hq, Value.cells, hs, hst]
  unfold Oper.wp execOp
  simp only [ho, hx, hy, Instr.storeAt, Instr.sureAddr, Sem.run_bind, Sem.run_pure, Result.andThen_ok, hrun]
  exact h
theorem PoolR.set {w : World} {s : Tx.St} {p : SP} {fs : List Fr} (h : PoolR w s p fs) {b : Nat} {cur : Array Value} {t : TypeId} {fr : Nat × Nat} (hb : w.heap[b]? = some (.cells cur t fr)) (h1 : t ≠ 9) (h2 : t ≠ 156) (h3 : t ≠ 80) (j : Nat) (v : Value) : PoolR (w.setCell ⟨b, j, none⟩ v) s p fs := by
  rw [setCell_eq_setRow w b j cur t fr v hb]
  exact h.other hb h1 h2 h3 _
theorem PoolR.own {w : World} {s : Tx.St} {p : SP} {fs : List Fr} (h : PoolR w s p fs) {g : Nat} {cur : Array Value} {fr : Nat × Nat} (hg : w.heap[g]? = some (.cells cur 80 fr)) (hne : ∀ ad, p.F = some ad → ad.block ≠ g) (j : Nat) (v : Value) : PoolR (w.setCell ⟨g, j, none⟩ v) s p fs :=
  ⟨h.st.set hg (by decide) (by decide) j v, h.fn, h.fr.off g j v (fun _ => hne), h.ft.set g j v⟩
theorem PoolR.disk {w w' : World} {s : Tx.St} {p : SP} {fs : List Fr} (h : PoolR w s p fs) (hb : Below w.heap.size w w') {d : Lg.Dk} {A : Option Addr} {c : Nat} (l : Lg.Lo) (hr : DiskR w' d A c) (ht : NewT 0 w' 9 A) : PoolR w' { s with disk := d, log := l } { p with A := A, c := c } fs := by
  have h1 := h.below hb
  exact ⟨⟨hr, ht, h1.st.tx, h1.st.tt⟩, h1.fn, h1.fr, h1.ft⟩
set_option maxRecDepth 100000 in
set_option maxHeartbeats 8000000 in
theorem pwith_any (s : Tx.St) (p : SP) (fs : List Fr) (hfl : fs.length ≤ 100) (k : Nat) (hk : k < fs.length) (f : Fr) (w : World) (h : PoolR w s p fs) :
    Calls Tryz.prog 64 #[storeV s p, .int .i64 k, .agg (frA f)] w fun e w' => ∃ q, e = .returned (storeV s q) ∧ PoolR w' s q (fs.set k f) ∧ Below w.heap.size w w' := by
  have HP := Lib.hid h
  have HFN := Lib.hid h.fn
  have HCL := Lib.hid (fun W (hb : Below w.heap.size w W) => fclone_any fs (by omega) p.F p.fc W (h.fr.below hb))
  clear h
  go_enter Tryz.func64, Tryz.ntmps64
  go_upto_region 1 with fail
  have H0 := Lib.hid (show BxL w.heap.size w [((stA s p), 36), ((frA f), 80), (#[.int .i64 0, .int .i64 0, .int .i64 0, .slice none 0 0, .int .i64 0, .bool false, .int .i64 0, .int .i64 0, .int .i64 0, .int .i64 0, .string ⟨#[]⟩, .slice none 0 0, .int .i64 0, .slice none 0 0, .int .i64 0], 36)] (((w.alloc (.cells (stA s p) 36)).alloc (.cells (frA f) 80)).alloc (.cells #[.int .i64 0, .int .i64 0, .int .i64 0, .slice none 0 0, .int .i64 0, .bool false, .int .i64 0, .int .i64 0, .int .i64 0, .int .i64 0, .string ⟨#[]⟩, .slice none 0 0, .int .i64 0, .slice none 0 0, .int .i64 0] 36)) from ((((BxL.nil (Below.refl w.heap.size w)).new (by simp) (stA s p) 36).new (by simp) (frA f) 80).new (by simp) #[.int .i64 0, .int .i64 0, .int .i64 0, .slice none 0 0, .int .i64 0, .bool false, .int .i64 0, .int .i64 0, .int .i64 0, .int .i64 0, .string ⟨#[]⟩, .slice none 0 0, .int .i64 0, .slice none 0 0, .int .i64 0] 36))
  obtain ⟨W0, hW0⟩ : ∃ W, W = (((w.alloc (.cells (stA s p) 36)).alloc (.cells (frA f) 80)).alloc (.cells #[.int .i64 0, .int .i64 0, .int .i64 0, .slice none 0 0, .int .i64 0, .bool false, .int .i64 0, .int .i64 0, .int .i64 0, .int .i64 0, .string ⟨#[]⟩, .slice none 0 0, .int .i64 0, .slice none 0 0, .int .i64 0] 36)) := ⟨_, rfl⟩
  rw [← hW0] at H0 ⊢
  clear hW0
  have hc := show W0.cell? ⟨w.heap.size, 11, none⟩ = some (.slice p.F fs.length p.fc) from by rw [blkCell H0.out.get0, ← HFN.out]; rfl
  go_upto_region 2 with (go_at_call 100; (refine (HCL.out _ H0.out.below).mono ?_); rintro e w1 ⟨v, rfl, ho, hb1⟩; obtain ⟨g, c2, rfl, hgB⟩ := ownSome ho (by omega); have H1 := Lib.hid (H0.out.step hb1); have hcx := show w1.cell? ⟨w.heap.size, 11, none⟩ = some (.slice p.F fs.length p.fc) from (by rw [blkCell H1.out.get0, ← HFN.out]; rfl); have hzx := blkFrozen H1.out.get0 11)
  have hlt : w.heap.size < W0.heap.size := by have := H0.out.lt (i := 0) (by simp); omega
  have H2 := Lib.hid (show BxL w.heap.size w [((stA s { p with F := some ⟨g, 0, none⟩, fn := fs.length, fc := c2 }), 36), ((frA f), 80), (#[.int .i64 0, .int .i64 0, .int .i64 0, .slice none 0 0, .int .i64 0, .bool false, .int .i64 0, .int .i64 0, .int .i64 0, .int .i64 0, .string ⟨#[]⟩, .slice none 0 0, .int .i64 0, .slice none 0 0, .int .i64 0], 36)] (w1.setCell ⟨w.heap.size, 11, none⟩ (.slice (some ⟨g, 0, none⟩) fs.length c2)) from by have h := H1.out.set 0 11 (.slice (some ⟨g, 0, none⟩) fs.length c2) _ rfl; simpa using h)
  have HO2 := Lib.hid (ownSet ho ⟨w.heap.size, 11, none⟩ (.slice (some ⟨g, 0, none⟩) fs.length c2) hlt)
  generalize w1.setCell ⟨w.heap.size, 11, none⟩ (.slice (some ⟨g, 0, none⟩) fs.length c2) = w2 at H2 HO2 ⊢
  have hki0 : (0 : Int) ≤ (k : Int) := by omega
  have hki : (k : Int) < (fs.length : Int) := by omega
  obtain ⟨htr, hop, hbp⟩ := own_put frL_len HO2.out k hk f
  have htr2 : w2.there g (k * 5) (frA f).size := htr
  have hc2 := show w2.cell? ⟨w.heap.size, 11, none⟩ = some (.slice (some ⟨g, 0, none⟩) fs.length c2) from by rw [blkCell H2.out.get0]; rfl
  clear hc hcx hzx
  go_upto_region 3 with (first | (with_reducible refine listLoad (by kernel_rfl) 80 (.tmp 5) rfl (w.heap.size + 1) rfl (frA f) _ H2.out.get1 _ Tryz.underlying80 (by kernel_rfl) (by kernel_rfl) ?_) | (with_reducible refine wpList_store_mid rfl 80 (.tmp 18) (.tmp 17) rfl g (k * 5) (frA f) rfl rfl htr2 (by kernel_rfl) (by kernel_rfl) ?_))
  have hM : w.heap.size + 3 ≤ W0.heap.size := H0.out.lt (i := 2) (by simp)
  have H3 := Lib.hid (H2.out.under hM hbp)
  have HO3 := Lib.hid hop
  rw [show ([.int .i64 f.page, .string f.bytes, .int .i64 f.pins, .bool f.mark, .int .i64 f.rc] : List Value) = frL f from rfl]
  generalize w2.setCells g (k * 5) (frL f) = w3 at H3 HO3 ⊢
  try simp only [Act.put]
  clear htr htr2 hop hbp hc2 H1 H2 HO2 ho hb1
  go_wp2_with (first | (with_reducible refine listLoad (by kernel_rfl) 36 (.tmp 3) rfl w.heap.size rfl (stA s { p with F := some ⟨g, 0, none⟩, fn := fs.length, fc := c2 }) _ H3.out.get0 _ Tryz.underlying36 (by kernel_rfl) (by kernel_rfl) ?_) | (with_reducible refine listStore (by kernel_rfl) 36 (.tmp 6) (.tmp 19) rfl (w.heap.size + 2) (stA s { p with F := some ⟨g, 0, none⟩, fn := fs.length, fc := c2 }) _ _ rfl rfl H3.out.get2 (by kernel_rfl) (by kernel_rfl) (by kernel_rfl) ?_))
  refine bodyPost_ret (v := .agg (stA s { p with F := some ⟨g, 0, none⟩, fn := fs.length, fc := c2 })) (results_cell rfl _ _ rfl (load_whole (setRow_heap _ _ _ _ _ _ H3.out.get2) Tryz.underlying36 (by kernel_rfl) (by kernel_rfl))) rfl ?_
  have HB := (H3.out.row 2 (stA s { p with F := some ⟨g, 0, none⟩, fn := fs.length, fc := c2 }) _ rfl).below
  have hq := HP.out.below HB
  have hO4 := ownRowOff HO3.out (w.heap.size + 2) (stA s { p with F := some ⟨g, 0, none⟩, fn := fs.length, fc := c2 }) (by omega)
  exact ⟨{ p with F := some ⟨g, 0, none⟩, fn := fs.length, fc := c2 }, rfl, ⟨⟨hq.st.dk, hq.st.dt, hq.st.tx, hq.st.tt⟩, by rw [List.length_set], by rw [List.length_set]; exact own_reads (by rw [List.length_set] at hO4; exact hO4), (NewT.own hO4).mono (Nat.zero_le _)⟩, HB⟩
end Go.Proofs.YtmebkghdkeeobaaGreatDoor
namespace Sc
open Rc Lg Ck
def putK (d : Dk) (a : Nat) (b : ByteArray) : Nat → Dk
  | 0 => d
  | k + 1 => { putK d a b k with sectors := (putK d a b k).sectors.set (a + k) (sec4 b k) }
theorem putK_pw {N M : Nat} {d : Dk} {g : Lo} (h : Pw N M d g) {a : Nat} {b : ByteArray} (hb : b.size = 512) (ha : 1 + N ≤ a) (ha2 : a + 4 ≤ M) : ∀ k, k ≤ 4 → Pw N M (putK d a b k) g := by
  intro k
  induction k with
  | zero => intro _; exact h
  | succ k ih => intro hk; exact ((ih (by omega)).write (sec4_size hb (by omega)) (i := a + k) (by omega) (by omega)).2
theorem putK_wr {N M : Nat} {d : Dk} {g : Lo} (h : Pw N M d g) {a : Nat} {b : ByteArray} (hb : b.size = 512) (ha : 1 + N ≤ a) (ha2 : a + 4 ≤ M) {k : Nat} (hk : k < 4) : writeD (putK d a b k) ((a : Int) + (k : Int)) (sec4 b k) = (putK d a b (k + 1), 0) := by
  have h1 := ((putK_pw h hb ha ha2 k (by omega)).write (sec4_size hb hk) (i := a + k) (by omega) (by omega)).1
  rw [show ((a + k : Nat) : Int) = (a : Int) + (k : Int) from by omega] at h1
  exact h1
end Sc
namespace Go.Proofs.YtmebkghdkeeobaaGreatDoor
open Go.RowKit Sc
def PgOut (d : Lg.Dk) (w : World) (e : Ending) (w' : World) : Prop := ∃ (A : Option Addr) (c : Nat), e = .returned (.tuple #[diskV d A c, .int .i64 0]) ∧ DiskR w' d A c ∧ NewT 0 w' 9 A ∧ Below w.heap.size w w'
set_option maxRecDepth 100000 in
set_option maxHeartbeats 8000000 in
theorem cwritepage_any {N M : Nat} {g0 : Lg.Lo} (d : Lg.Dk) (hp : Pw N M d g0) (A : Option Addr) (c : Nat) (a : Nat) (ha : 1 + N ≤ a) (ha2 : a + 4 ≤ M) (hM : M ≤ 100000) (b : ByteArray) (hb : b.size = 512) (w : World) (h : DiskR w d A c) (hT : NewT 0 w 9 A) :
    Calls Tryz.prog 140 #[diskV d A c, .int .i64 (a : Int), .string b] w (PgOut (putP d a b) w) := by
  have hlen := hp.len
  have HFI := Lib.hid (fun W => fits_any d A c a (by omega) h.small W)
  have HPK := Lib.hid (putK_pw hp hb ha ha2)
  have HWR := Lib.hid (fun (k : Nat) (hk : k < 4) (B : Option Addr) (cc : Nat) W (hr : DiskR W (putK d a b k) B cc) => show Calls Tryz.prog 162 #[diskV (putK d a b k) B cc, .int .i64 ((a : Int) + (k : Int)), .string (sec4 b k)] W (WriteOut (putK d a b (k + 1), 0) B W) from by
    have hl := (putK_pw hp hb ha ha2 k (by omega)).left
    have h9 := dwrite_any (putK d a b k) (by rw [hl]; decide) B cc ((a : Int) + (k : Int)) (sec4 b k) W hr
    rw [putK_wr hp hb ha ha2 hk] at h9
    exact h9)
  have HEX := Lib.hid (fun (k : Nat) (hk : k < 4) => show b.extract (k * 128) ((k + 1) * 128) = sec4 b k from by unfold sec4; rw [show (k + 1) * 128 = k * 128 + 128 by omega])
  have hup := hp.up
  have hR0 : DiskR w (putK d a b 0) A c := h
  have HR := Lib.hid hR0
  have HT := Lib.hid hT
  rw [show putP d a b = putK d a b 4 from rfl]
  dsimp only [diskV] at HFI
  have HW2 := HWR
  dsimp only [diskV] at HW2
  show Calls Tryz.prog 140 #[.agg #[.slice A (putK d a b 0).sectors.length c, .int .i64 (putK d a b 0).left, .bool (putK d a b 0).down], .int .i64 (a : Int), .string b] w _
  have HF0 := Lib.hid (fun W => show Calls Tryz.prog 134 #[.agg #[.slice A (putK d a b 0).sectors.length c, .int .i64 (putK d a b 0).left, .bool (putK d a b 0).down], .int .i64 (a : Int)] W fun e w' => e = .returned (.bool true) ∧ Below W.heap.size W w' from HFI.out W)
  have HUP := Lib.hid (show (putK d a b 0).down = false from hup)
  have ha3 : a ≤ 100000 := by omega
  have HLE := Lib.hid (fun k (hk : k ≤ 4) => (HPK.out k hk).len)
  clear HFI HWR hup hR0 h hT hp ha ha2 hlen HPK
  generalize hD : putK d a b = D at HR HW2 HF0 HUP HLE ⊢
  clear hD
  go_enter Tryz.func140, Tryz.ntmps140
  go_upto_region 1 with fail
  have H0 := Lib.hid (show BxL w.heap.size w [(#[.slice A (D 0).sectors.length c, .int .i64 (D 0).left, .bool (D 0).down], 28), (#[.slice none 0 0, .int .i64 0, .bool false], 28)] ((w.alloc (.cells #[.slice A (D 0).sectors.length c, .int .i64 (D 0).left, .bool (D 0).down] 28)).alloc (.cells #[.slice none 0 0, .int .i64 0, .bool false] 28)) from (((BxL.nil (Below.refl w.heap.size w)).new (by simp) #[.slice A (D 0).sectors.length c, .int .i64 (D 0).left, .bool (D 0).down] 28).new (by simp) #[.slice none 0 0, .int .i64 0, .bool false] 28))
  obtain ⟨W0, hW0⟩ : ∃ W, W = ((w.alloc (.cells #[.slice A (D 0).sectors.length c, .int .i64 (D 0).left, .bool (D 0).down] 28)).alloc (.cells #[.slice none 0 0, .int .i64 0, .bool false] 28)) := ⟨_, rfl⟩
  rw [← hW0] at H0 ⊢
  clear hW0
  have hc := show W0.cell? ⟨w.heap.size, 2, none⟩ = some (.bool false) from by rw [blkCell H0.out.get0, ← HUP.out]; rfl
  have h1i : ((b.size : Int) != 512) = false := by rw [hb]; rfl
  clear HUP
  go_upto_region 5 with (first | (with_reducible refine listLoad (by kernel_rfl) 28 (.tmp 3) rfl w.heap.size rfl #[.slice A (D 0).sectors.length c, .int .i64 (D 0).left, .bool (D 0).down] _ H0.out.get0 _ Tryz.underlying28 (by kernel_rfl) (by kernel_rfl) ?_) | (go_at_call 134; (with_reducible refine (HF0.out _).mono ?_); rintro e w1 ⟨rfl, hb1⟩))
  have H1 := Lib.hid (H0.out.step hb1)
  have HR1 := Lib.hid (HR.out.below H1.out.below)
  have HT1 := Lib.hid (HT.out.below H1.out.below)
  clear hc h1i HF0 H0 hb1
  go_wp2_with fail
  go_loopw [26] (fun i wr => ∃ (k : Nat) (A2 : Option Addr) (c2 : Nat), k ≤ 4 ∧ i = .int .i64 (k : Int) ∧ BxL w.heap.size w [(#[.slice A2 (D k).sectors.length c2, .int .i64 (D k).left, .bool (D k).down], 28), (#[.slice none 0 0, .int .i64 0, .bool false], 28)] wr ∧ DiskR wr (D k) A2 c2 ∧ NewT 0 wr 9 A2) (fun i _ => 4 - (intOf i).toNat)
  case atStart => exact ⟨0, A, c, by omega, rfl, H1.out, HR1.out, HT1.out⟩
  case round =>
    clear HR1 HT1 H1 HR HT
    obtain ⟨k, A2, c2, hk, rfl, hbx, hdr, hdt⟩ := hrel
    have HBX := Lib.hid hbx
    have HDR := Lib.hid hdr
    have HDT := Lib.hid hdt
    clear hbx hdr hdt
    have hk0 : (0 : Int) ≤ (k : Int) := by omega
    by_cases hlt : k < 4
    · have hki : (k : Int) < 4 := by omega
      have hwk : IntKind.i64.wrap ((k : Int) + 1) = (k : Int) + 1 := IntWalk.i64_in _ (by omega)
      have hwa : IntKind.i64.wrap ((a : Int) + (k : Int)) = (a : Int) + (k : Int) := IntWalk.i64_in _ (by omega)
      have hw1 : IntKind.i64.wrap ((k : Int) * 128) = (k : Int) * 128 := IntWalk.i64_in _ (by omega)
      have hw2 : IntKind.i64.wrap (((k : Int) + 1) * 128) = ((k : Int) + 1) * 128 := IntWalk.i64_in _ (by omega)
      have hs0 : (0 : Int) ≤ (k : Int) * 128 := by omega
      have hs1 : (k : Int) * 128 ≤ ((k : Int) + 1) * 128 := by omega
      have hs2 : ((k : Int) + 1) * 128 ≤ (b.size : Int) := by omega
      have hs3 : (0 : Int) ≤ ((k : Int) + 1) * 128 := by omega
      have hs5 : (k : Int) ≤ (k : Int) + 1 := by omega
      have hs4 : ((k : Int) + 1) * 128 ≤ 512 := by omega
      have hx1 : ((k : Int) * 128).toNat = k * 128 := by omega
      have hx2 : (((k : Int) + 1) * 128).toNat = (k + 1) * 128 := by omega
      have hex := HEX.out k hlt
      have HWK := Lib.hid (fun W (hb : Below wr.heap.size wr W) => HW2.out k hlt A2 c2 W (HDR.out.below hb))
      have hbs : (b.size : Int) = 512 := by omega
      have HWK2 := Lib.hid (show ∀ W, Below wr.heap.size wr W → Calls Tryz.prog 162 #[.agg #[.slice A2 (D k).sectors.length c2, .int .i64 (D k).left, .bool (D k).down], .int .i64 ((a : Int) + (k : Int)), .string (sec4 b k)] W (WriteOut (D (k + 1), 0) A2 W) from HWK.out)
      clear HWK HW2 HLE
      obtain ⟨d3, hd3⟩ : ∃ x, D (k + 1) = x := ⟨_, rfl⟩
      rw [hd3] at HWK2
      have HD3 := Lib.hid hd3
      clear hd3
      clear hlt
      go_upto_region 8 with fail
      go_cut [9, 10] (fun x y wc => ∃ (gt : Nat) (A3 : Option Addr) (c3 : Nat), x = .pointer (some ⟨gt, 0, none⟩) ∧ y = .int .i64 0 ∧ wc.heap[gt]? = some (.cells #[.slice A3 d3.sectors.length c3, .int .i64 d3.left, .bool d3.down] 28 (0, 0)) ∧ DiskR wc d3 A3 c3 ∧ NewT 0 wc 9 A3 ∧ Below wr.heap.size wr wc)
      case first =>
        have Z0 : Below wr.heap.size wr wr.drew := (Below.refl _ wr).drew
        refine wp_region_held_drew (S := (fun u => Below wr.heap.size wr u)) (by kernel_rfl) ?_ (fun hHeld => ?_)
        · exact Z0
        refine tkV 0 (some 30) (v := .agg #[.slice A2 (D k).sectors.length c2, .int .i64 (D k).left, .bool (D k).down]) rfl (yieldsIf_load_mid (by rfl) 28 (.tmp 3) rfl w.heap.size 0 (by rfl) #[.slice A2 (D k).sectors.length c2, .int .i64 (D k).left, .bool (D k).down].toList _ (fun u hu => (by intro j v hj; rw [Nat.zero_add, blkCell (blkOld HBX.out.get0 hu)]; simpa using hj)) Tryz.underlying28 (by kernel_rfl) (by kernel_rfl)) ?_
        try simp only [Act.put, List.setIfInBounds_toArray, List.set_cons_zero, List.set_cons_succ]
        refine tkW 1 (some 31) (v := ?_) rfl ?_ ?_
        rotate_left
        · intro u hSu; clear hSu; go_simp; (try with_reducible rfl)
        try simp only [Act.put, List.setIfInBounds_toArray, List.set_cons_zero, List.set_cons_succ]
        refine tkW 2 (some 32) (v := ?_) rfl ?_ ?_
        rotate_left
        · intro u hSu; clear hSu; go_simp; (try with_reducible rfl)
        try simp only [Act.put, List.setIfInBounds_toArray, List.set_cons_zero, List.set_cons_succ]
        refine tkW 3 (some 33) (v := ?_) rfl ?_ ?_
        rotate_left
        · intro u hSu; clear hSu; go_simp; (try with_reducible rfl)
        try simp only [Act.put, List.setIfInBounds_toArray, List.set_cons_zero, List.set_cons_succ]
        refine tkW 4 (some 34) (v := ?_) rfl ?_ ?_
        rotate_left
        · intro u hSu; clear hSu; go_simp; (try with_reducible rfl)
        try simp only [Act.put, List.setIfInBounds_toArray, List.set_cons_zero, List.set_cons_succ]
        refine tkW 5 (some 35) (v := ?_) rfl ?_ ?_
        rotate_left
        · intro u hSu; clear hSu; go_simp; (try with_reducible rfl)
        try simp only [Act.put, List.setIfInBounds_toArray, List.set_cons_zero, List.set_cons_succ]
        refine tkW 6 (some 36) (v := ?_) rfl ?_ ?_
        rotate_left
        · intro u hSu; clear hSu; go_simp; (try with_reducible rfl)
        try simp only [Act.put, List.setIfInBounds_toArray, List.set_cons_zero, List.set_cons_succ]
        refine tkW 7 (some 37) (v := ?_) rfl ?_ ?_
        rotate_left
        · intro u hSu; clear hSu; go_simp; (try with_reducible rfl)
        try simp only [Act.put, List.setIfInBounds_toArray, List.set_cons_zero, List.set_cons_succ]
        refine tkW 8 (some 38) (v := ?_) rfl ?_ ?_
        rotate_left
        · intro u hSu; clear hSu; go_simp; (try with_reducible rfl)
        try simp only [Act.put, List.setIfInBounds_toArray, List.set_cons_zero, List.set_cons_succ]
        refine tkW 9 (some 39) (v := ?_) rfl ?_ ?_
        rotate_left
        · intro u hSu; clear hSu; go_simp; (try with_reducible rfl)
        try simp only [Act.put, List.setIfInBounds_toArray, List.set_cons_zero, List.set_cons_succ]
        refine tkW 10 (some 40) (v := ?_) rfl ?_ ?_
        rotate_left
        · intro u hSu; clear hSu; go_simp; (try with_reducible rfl)
        try simp only [Act.put, List.setIfInBounds_toArray, List.set_cons_zero, List.set_cons_succ]
        refine wpAnyH_ready (rs := [11, 15]) (by kernel_rfl) (by simp) ?_
        refine (AllReadyH.cons (o := { dst := some 41, op := _, type := _, pos := _, after := _, guard := _ }) rfl (fun K hK => ?_) (AllReadyH.cons (o := { dst := some 9, op := _, type := _, pos := _, after := _, guard := _ }) rfl (fun K hK => ?_) AllReadyH.nil))
        ·
          go_simp
          refine (HWK2.out _ Z0).mono ?_; rintro e w5 ⟨A3, c3, rfl, hr5, hn5, hb5⟩; have hq5 : NewT 0 w5 9 A3 := hn5.elim (fun e => by rw [e]; exact HDT.out.below (joinB Z0 hb5)) (fun e => e.mono (Nat.zero_le _)); have Z2 := joinB Z0 hb5; try clear hSn
          have hSn := Z2
          refine hK.out _ _ ?_ (fun hHeld => ?_)
          · exact hSn
          clear hK K
          try simp only [Act.put, List.setIfInBounds_toArray, List.set_cons_zero, List.set_cons_succ]
          refine tkW 12 (some 29) (v := ?_) rfl ?_ ?_
          rotate_left
          · intro u hSu; clear hSu; go_simp; (try with_reducible rfl)
          try simp only [Act.put, List.setIfInBounds_toArray, List.set_cons_zero, List.set_cons_succ]
          refine tkW 13 (some 42) (v := ?_) rfl ?_ ?_
          rotate_left
          · intro u hSu; clear hSu; go_simp; (try with_reducible rfl)
          try simp only [Act.put, List.setIfInBounds_toArray, List.set_cons_zero, List.set_cons_succ]
          refine tkW 14 (some 43) (v := ?_) rfl ?_ ?_
          rotate_left
          · intro u hSu; clear hSu; go_simp; (try with_reducible rfl)
          try simp only [Act.put, List.setIfInBounds_toArray, List.set_cons_zero, List.set_cons_succ]
          refine rdH 15 (some 9) rfl (fun K hK => ?_)
          go_simp
          have HG := heap_alloc_new w5 (.cells #[.slice none 0 0, .int .i64 0, .bool false] 28); have Z3 := joinB Z2 (allocB w5 (.cells #[.slice none 0 0, .int .i64 0, .bool false] 28)); have hr6 := hr5.below (allocB w5 (.cells #[.slice none 0 0, .int .i64 0, .bool false] 28)); have hn6 := hq5.below (allocB w5 (.cells #[.slice none 0 0, .int .i64 0, .bool false] 28)); clear hSn; have hSn := Z3
          refine hK.out _ _ ?_ (fun hHeld => ?_)
          · exact hSn
          clear hK K
          try simp only [Act.put, List.setIfInBounds_toArray, List.set_cons_zero, List.set_cons_succ]
          refine rdH 16 none rfl (fun K hK => ?_)
          refine wantedIf (by rfl) ?_
          refine wp_store_whole 28 (.tmp 9) (.tmp 42) rfl w5.heap.size #[.slice A3 d3.sectors.length c3, .int .i64 d3.left, .bool d3.down] _ _ rfl rfl HG (by kernel_rfl) (by kernel_rfl) (by kernel_rfl) ?_
          have Z4 := rowB (g := w5.heap.size) (by have := Z2.size; omega) Z3 #[.slice A3 d3.sectors.length c3, .int .i64 d3.left, .bool d3.down]
          have HG4 := setRow_heap _ _ _ #[.slice A3 d3.sectors.length c3, .int .i64 d3.left, .bool d3.down] _ _ HG
          have hr7 : DiskR _ d3 A3 c3 := ⟨hn6.readsRow hr6.secs HG (by decide) #[.slice A3 d3.sectors.length c3, .int .i64 d3.left, .bool d3.down], hr6.small⟩
          have hn7 := hn6.row w5.heap.size #[.slice A3 d3.sectors.length c3, .int .i64 d3.left, .bool d3.down]
          clear hSn
          have hSn := Z4
          refine hK.out _ _ ?_ (fun hHeld => ?_)
          · exact hSn
          clear hK K
          try simp only [Act.put, List.setIfInBounds_toArray, List.set_cons_zero, List.set_cons_succ]
          refine tkW 17 (some 10) (v := ?_) rfl ?_ ?_
          rotate_left
          · intro u hSu; clear hSu; go_simp; (try with_reducible rfl)
          try simp only [Act.put, List.setIfInBounds_toArray, List.set_cons_zero, List.set_cons_succ]
          refine wpAnyH_done (by kernel_rfl) ?_ _
          clear hHeld hSn
          go_wp2_with fail
          go_meet
          case rel => exact ⟨_, A3, c3, rfl, rfl, HG4, hr7, hn7, Z4⟩
        ·
          go_simp
          have Z1 := joinB Z0 (allocB wr.drew (.cells #[.slice none 0 0, .int .i64 0, .bool false] 28)); have hSn := Z1
          refine hK.out _ _ ?_ (fun hHeld => ?_)
          · exact hSn
          clear hK K
          try simp only [Act.put, List.setIfInBounds_toArray, List.set_cons_zero, List.set_cons_succ]
          refine rdH 11 (some 41) rfl (fun K hK => ?_)
          go_simp
          refine (HWK2.out _ Z1).mono ?_; rintro e w5 ⟨A3, c3, rfl, hr5, hn5, hb5⟩; have hq5 : NewT 0 w5 9 A3 := hn5.elim (fun e => by rw [e]; exact HDT.out.below (joinB Z1 hb5)) (fun e => e.mono (Nat.zero_le _)); have Z2 := joinB Z1 hb5; try clear hSn
          have hSn := Z2
          have HG := blkNew hb5
          refine hK.out _ _ ?_ (fun hHeld => ?_)
          · exact hSn
          clear hK K
          try simp only [Act.put, List.setIfInBounds_toArray, List.set_cons_zero, List.set_cons_succ]
          refine tkW 12 (some 29) (v := ?_) rfl ?_ ?_
          rotate_left
          · intro u hSu; clear hSu; go_simp; (try with_reducible rfl)
          try simp only [Act.put, List.setIfInBounds_toArray, List.set_cons_zero, List.set_cons_succ]
          refine tkW 13 (some 42) (v := ?_) rfl ?_ ?_
          rotate_left
          · intro u hSu; clear hSu; go_simp; (try with_reducible rfl)
          try simp only [Act.put, List.setIfInBounds_toArray, List.set_cons_zero, List.set_cons_succ]
          refine tkW 14 (some 43) (v := ?_) rfl ?_ ?_
          rotate_left
          · intro u hSu; clear hSu; go_simp; (try with_reducible rfl)
          try simp only [Act.put, List.setIfInBounds_toArray, List.set_cons_zero, List.set_cons_succ]
          refine rdH 16 none rfl (fun K hK => ?_)
          refine wantedIf (by rfl) ?_
          refine wp_store_whole 28 (.tmp 9) (.tmp 42) rfl wr.drew.heap.size #[.slice A3 d3.sectors.length c3, .int .i64 d3.left, .bool d3.down] _ _ rfl rfl HG (by kernel_rfl) (by kernel_rfl) (by kernel_rfl) ?_
          have Z4 := rowB (g := wr.drew.heap.size) (by show wr.heap.size ≤ wr.heap.size; omega) Z2 #[.slice A3 d3.sectors.length c3, .int .i64 d3.left, .bool d3.down]
          have HG4 := setRow_heap _ _ _ #[.slice A3 d3.sectors.length c3, .int .i64 d3.left, .bool d3.down] _ _ HG
          have hr7 : DiskR _ d3 A3 c3 := ⟨hq5.readsRow hr5.secs HG (by decide) #[.slice A3 d3.sectors.length c3, .int .i64 d3.left, .bool d3.down], hr5.small⟩
          have hn7 := hq5.row wr.drew.heap.size #[.slice A3 d3.sectors.length c3, .int .i64 d3.left, .bool d3.down]
          clear hSn
          have hSn := Z4
          refine hK.out _ _ ?_ (fun hHeld => ?_)
          · exact hSn
          clear hK K
          try simp only [Act.put, List.setIfInBounds_toArray, List.set_cons_zero, List.set_cons_succ]
          refine tkW 17 (some 10) (v := ?_) rfl ?_ ?_
          rotate_left
          · intro u hSu; clear hSu; go_simp; (try with_reducible rfl)
          try simp only [Act.put, List.setIfInBounds_toArray, List.set_cons_zero, List.set_cons_succ]
          refine wpAnyH_done (by kernel_rfl) ?_ _
          clear hHeld hSn
          go_wp2_with fail
          go_meet
          case rel => exact ⟨_, A3, c3, rfl, rfl, HG4, hr7, hn7, Z4⟩
      case rest =>
        obtain ⟨gt, A3, c3, rfl, rfl, hg3, hr3, hn3, hb3⟩ := hcut
        obtain ⟨w3, rfl⟩ : ∃ wm : World, wm = wc := ⟨_, rfl⟩
        have HG3 := Lib.hid hg3
        have HR3 := Lib.hid hr3
        have HN3 := Lib.hid hn3
        have HB3 := Lib.hid (HBX.out.step hb3)
        clear hg3 hr3 hn3 hb3 HWK2
        go_wp2_with (first | (with_reducible refine listLoad (by kernel_rfl) 28 (.tmp 9) rfl gt rfl #[.slice A3 d3.sectors.length c3, .int .i64 d3.left, .bool d3.down] _ HG3.out _ Tryz.underlying28 (by kernel_rfl) (by kernel_rfl) ?_) | (with_reducible refine listStore (by kernel_rfl) 28 (.tmp 3) (.tmp 44) rfl w.heap.size #[.slice A3 d3.sectors.length c3, .int .i64 d3.left, .bool d3.down] _ _ rfl rfl HB3.out.get0 (by kernel_rfl) (by kernel_rfl) (by kernel_rfl) ?_))
        go_roundw
        case rel =>
          have hz := HD3.out
          subst hz
          exact ⟨k + 1, A3, c3, by omega, by go_num, HB3.out.row 0 #[.slice A3 (D (k + 1)).sectors.length c3, .int .i64 (D (k + 1)).left, .bool (D (k + 1)).down] _ rfl, ⟨HN3.out.readsRow HR3.out.secs HB3.out.get0 (by decide) _, HR3.out.small⟩, HN3.out.row _ _⟩
        case measure => simp [intOf]; omega
    · obtain rfl : k = 4 := by omega
      go_wp2_with (first | (with_reducible refine listLoad (by kernel_rfl) 28 (.tmp 3) rfl w.heap.size rfl #[.slice A2 (D 4).sectors.length c2, .int .i64 (D 4).left, .bool (D 4).down] _ HBX.out.get0 _ Tryz.underlying28 (by kernel_rfl) (by kernel_rfl) ?_) | (with_reducible refine listStore (by kernel_rfl) 28 (.tmp 6) (.tmp 50) rfl (w.heap.size + 1) #[.slice A2 (D 4).sectors.length c2, .int .i64 (D 4).left, .bool (D 4).down] _ _ rfl rfl HBX.out.get1 (by kernel_rfl) (by kernel_rfl) (by kernel_rfl) ?_))
      refine bodyPost_ret (v := .tuple #[.agg #[.slice A2 (D 4).sectors.length c2, .int .i64 (D 4).left, .bool (D 4).down], .int .i64 0]) (results_cell2 rfl _ _ rfl (load_whole (setRow_heap _ _ _ _ _ _ HBX.out.get1) Tryz.underlying28 (by kernel_rfl) (by kernel_rfl)) rfl) rfl ?_
      exact ⟨A2, c2, rfl, ⟨HDT.out.readsRow HDR.out.secs HBX.out.get1 (by decide) _, HDR.out.small⟩, HDT.out.row _ _, (HBX.out.row 1 #[.slice A2 (D 4).sectors.length c2, .int .i64 (D 4).left, .bool (D 4).down] _ rfl).below⟩
end Go.Proofs.YtmebkghdkeeobaaGreatDoor
namespace Go
section
variable {P : Program} {ops : Array Oper} {Q : Exit → Act → World → Prop} {md : Region.Mode} {S : World → Prop} {z : Nat}
theorem wpAnyZ_firstP {i : Nat} {oi : Oper} {v : Value} (hi : ops[i]? = some oi) (hsel : ∀ (j : Nat) (o : Oper) cs b, ops[j]? = some o → o.op ≠ .select cs b)
    (hQ : ∀ c a w, Q (.panic c) (a.put oi.dst v) w → Q (.panic c) a w) (hiz : i ≠ z) :
    ∀ (fuel : Nat) (listed : Array Bool) (a : Act) (w : World),
      (∀ j oj, ops[j]? = some oj → j ≠ i → listed.getD j true = false → (∀ e ∈ oj.after, Region.binds md e = true → e.on ≠ i) → oi.apart ops oj = true) →
      i ∈ Region.ready md ops listed → YieldsIf P ops (fun _ => True) oi v a → (listed.getD z true = false → S w) →
      wpAnyZ P md ops Q S z fuel (listed.setIfInBounds i true) (a.put oi.dst v) w → wpAnyZ P md ops Q S z (fuel + 1) listed a w := by
  intro fuel
  induction fuel with
  | zero =>
    intro listed a w _ hr hy hS H
    refine ⟨fun h => (by rw [h] at hr; cases hr), fun j hj => ?_⟩
    by_cases hji : j = i
    · subst hji; exact hy.wpOp hi trivial ⟨fun h => hS (by rw [getD_set_ne true hiz] at h; exact h), H⟩
    · have := ready_mono hj hji
      rw [H.1] at this
      cases this
  | succ fuel ih =>
    intro listed a w hfree hr hy hS H
    refine ⟨fun h => (by rw [h] at hr; cases hr), fun j hj => ?_⟩
    by_cases hji : j = i
    · subst hji; exact hy.wpOp hi trivial ⟨fun h => hS (by rw [getD_set_ne true hiz] at h; exact h), H⟩
    · have h1 := H.2 j (ready_mono hj hji)
      obtain ⟨hjun, oj, hoj, hall⟩ := mem_ready.1 hj
      have hnot : ∀ e ∈ oj.after, Region.binds md e = true → e.on ≠ i := fun e he hb heq => by
        have h1 := hall e he hb
        have h0 := (mem_ready.1 hr).1
        rw [heq] at h1
        rw [getD_swap h0] at h1
        cases h1
      have h2 := wpOp_putIf hoj (hfree j oj hoj hji hjun hnot) (fun cs b => hsel i oi cs b hi) (fun cs b => hsel j oj cs b hoj) hQ hy h1
      have hfree' : ∀ k ok, ops[k]? = some ok → k ≠ i → (listed.setIfInBounds j true).getD k true = false →
          (∀ e ∈ ok.after, Region.binds md e = true → e.on ≠ i) → oi.apart ops ok = true := fun k ok hk hki hun hno => by
        refine hfree k ok hk hki ?_ hno
        by_cases hjk : j = k
        · subst hjk; exact hjun
        · rw [getD_set_ne true hjk] at hun; exact hun
      refine wpOp_mono (fun a' w' h3 => ?_) h2
      have hSw : (listed.setIfInBounds j true).getD z true = false → S w' := fun h => h3.2.1 (by
        rw [Array.setIfInBounds_comm _ _ (Ne.symm hji), getD_set_ne true hiz]; exact h)
      refine ⟨hSw, ih (listed.setIfInBounds j true) a' w' hfree' (ready_mono hr (Ne.symm hji)) h3.1 hSw ?_⟩
      rw [Array.setIfInBounds_comm _ _ hji]
      exact h3.2.2
theorem wpAnyZ_takeP {i : Nat} {oi : Oper} {v : Value} {fuel : Nat} {listed : Array Bool} {a : Act} {w : World} (hi : ops[i]? = some oi) (hiz : (i != z) = true)
    (hs : Region.noSelect ops = true) (hf : Region.free md ops listed i = true) (hr : (Region.ready md ops listed).contains i = true)
    (hQ : ∀ c a w, Q (.panic c) (a.put oi.dst v) w → Q (.panic c) a w) (hy : YieldsIf P ops (fun _ => True) oi v a) (hS : listed.getD z true = false → S w)
    (h : wpAnyZ P md ops Q S z fuel (listed.setIfInBounds i true) (a.put oi.dst v) w) : wpAnyZ P md ops Q S z (fuel + 1) listed a w :=
  wpAnyZ_firstP hi (Region.noSelect_spec hs) hQ (by simpa using hiz) fuel listed a w (Region.free_spec hi hf) (by simpa using hr) hy hS h
end
end Go
namespace Go.Proofs.YtmebkghdkeeobaaGreatDoor
open Go.RowKit Sc
set_option maxRecDepth 100000 in
set_option maxHeartbeats 8000000 in
theorem pread_any {N n : Nat} (s : Tx.St) (p : SP) (fs : List Fr) (C : Nat → ByteArray) (hI : PI N n s fs C) (pg : Nat) (hp : pg < n) (hd : ¬ Dirt fs pg) (w : World) (h : DiskR w s.disk p.A p.c) :
    Calls Tryz.prog 65 #[storeV s p, .int .i64 (pg : Int)] w fun e w' => e = .returned (.tuple #[.string (C pg), .int .i64 0]) ∧ Below w.heap.size w w' := by
  have hn1 := hI.n1
  have hlen := hI.pw.len
  have HSE := Lib.hid (fun W => psector_any s p N pg hI.zl hn1.2.2 (by omega) W)
  have HRP := Lib.hid (fun W (hb : Below w.heap.size w W) => creadpage_any s.disk hI.pw.up hI.pw.whole p.A p.c (1 + N + 4 * pg) (by omega) W (h.below hb))
  have HD := hI.dk pg hp hd
  have HNM := hI.nm pg hp
  unfold Lay at HD
  generalize pgAt s.disk (1 + N + 4 * pg) = b at HRP HD
  generalize C pg = q at HD HNM ⊢
  clear h hd hI hn1 hlen
  generalize 1 + N + 4 * pg = at_ at HSE HRP
  go_enter Tryz.func65, Tryz.ntmps65
  go_upto_region 1 with fail
  have H0 := Lib.hid (show BxL w.heap.size w [((stA s p), 36)] (w.alloc (.cells (stA s p) 36)) from ((BxL.nil (Below.refl w.heap.size w)).new (by simp) (stA s p) 36))
  obtain ⟨W0, hW0⟩ : ∃ W, W = (w.alloc (.cells (stA s p) 36)) := ⟨_, rfl⟩
  rw [← hW0] at H0 ⊢
  clear hW0
  go_cut [6, 7] (fun x y wc => x = .string b ∧ y = .int .i64 0 ∧ Below W0.heap.size W0 wc)
  case first =>
    have hSn : Below W0.heap.size W0 W0.drew := (Below.refl _ W0).drew
    refine wp_region_held_drew (S := (fun u => Below W0.heap.size W0 u)) (by kernel_rfl) ?_ (fun hHeld => ?_)
    · exact hSn
    generalize W0.drew = w9 at hSn ⊢
    refine tkW 0 (some 9) (v := ?_) rfl ?_ ?_
    rotate_left
    · intro u hSu; clear hSu; go_simp; (try with_reducible rfl)
    try simp only [Act.put, List.setIfInBounds_toArray, List.set_cons_zero, List.set_cons_succ]
    refine tkV 1 (some 10) (v := .agg #[.slice p.A s.disk.sectors.length p.c, .int .i64 s.disk.left, .bool s.disk.down]) rfl (yieldsIf_load_mid (by rfl) 28 (.tmp 9) rfl w.heap.size 3 (by rfl) [.slice p.A s.disk.sectors.length p.c, .int .i64 s.disk.left, .bool s.disk.down] _ (fun u hu j v hj => by rw [blkCell (blkOld H0.out.get0 hu)]; rcases j with _ | _ | _ | j <;> simp at hj ⊢ <;> exact hj) Tryz.underlying28 (by kernel_rfl) (by kernel_rfl)) ?_
    try simp only [Act.put, List.setIfInBounds_toArray, List.set_cons_zero, List.set_cons_succ]
    refine tkV 2 (some 11) (v := .agg (stA s p)) rfl (yieldsIf_load_mid (by rfl) 36 (.tmp 2) rfl w.heap.size 0 (by rfl) (stA s p).toList _ (fun u hu => (by intro j v hj; rw [Nat.zero_add, blkCell (blkOld H0.out.get0 hu)]; simpa using hj)) Tryz.underlying36 (by kernel_rfl) (by kernel_rfl)) ?_
    try simp only [Act.put, List.setIfInBounds_toArray, List.set_cons_zero, List.set_cons_succ]
    refine tkW 3 (some 12) (v := ?_) rfl ?_ ?_
    rotate_left
    · intro u hSu; clear hSu; go_simp; (try with_reducible rfl)
    try simp only [Act.put, List.setIfInBounds_toArray, List.set_cons_zero, List.set_cons_succ]
    refine rdH 4 (some 13) rfl (fun K hK => ?_)
    go_simp
    (refine (HSE.out _).mono ?_); rintro e w4 ⟨rfl, hb4⟩; have hSm := joinB hSn hb4; clear hSn; have hSn := hSm; clear hSm
    refine hK.out _ _ ?_ (fun hHeld => ?_)
    · exact hSn
    clear hK K
    try simp only [Act.put, List.setIfInBounds_toArray, List.set_cons_zero, List.set_cons_succ]
    refine rdH 5 (some 14) rfl (fun K hK => ?_)
    go_simp
    (refine (HRP.out _ (H0.out.below.trans (hSn.mono H0.out.below.size))).mono ?_); rintro e w5 ⟨rfl, hb5⟩; have hSm := joinB hSn hb5; clear hSn; have hSn := hSm; clear hSm
    refine hK.out _ _ ?_ (fun hHeld => ?_)
    · exact hSn
    clear hK K
    try simp only [Act.put, List.setIfInBounds_toArray, List.set_cons_zero, List.set_cons_succ]
    refine tkW 6 (some 8) (v := ?_) rfl ?_ ?_
    rotate_left
    · intro u hSu; clear hSu; go_simp; (try with_reducible rfl)
    try simp only [Act.put, List.setIfInBounds_toArray, List.set_cons_zero, List.set_cons_succ]
    refine tkW 7 (some 15) (v := ?_) rfl ?_ ?_
    rotate_left
    · intro u hSu; clear hSu; go_simp; (try with_reducible rfl)
    try simp only [Act.put, List.setIfInBounds_toArray, List.set_cons_zero, List.set_cons_succ]
    refine tkW 8 (some 16) (v := ?_) rfl ?_ ?_
    rotate_left
    · intro u hSu; clear hSu; go_simp; (try with_reducible rfl)
    try simp only [Act.put, List.setIfInBounds_toArray, List.set_cons_zero, List.set_cons_succ]
    refine tkW 9 (some 6) (v := ?_) rfl ?_ ?_
    rotate_left
    · intro u hSu; clear hSu; go_simp; (try with_reducible rfl)
    try simp only [Act.put, List.setIfInBounds_toArray, List.set_cons_zero, List.set_cons_succ]
    refine tkW 10 (some 7) (v := ?_) rfl ?_ ?_
    rotate_left
    · intro u hSu; clear hSu; go_simp; (try with_reducible rfl)
    try simp only [Act.put, List.setIfInBounds_toArray, List.set_cons_zero, List.set_cons_succ]
    refine wpAnyH_done (by kernel_rfl) ?_ _
    clear hHeld
    go_wp2_with fail
    go_meet
    case rel => exact ⟨rfl, rfl, hSn⟩
  case rest =>
    obtain ⟨rfl, rfl, hbc⟩ := hcut
    obtain ⟨w1, rfl⟩ : ∃ wm : World, wm = wc := ⟨_, rfl⟩
    have HB1 := Lib.hid (H0.out.below.trans (hbc.mono H0.out.below.size))
    clear hbc H0 HSE HRP
    have hmk : ∀ W : World, (Instr.makeSlice 67 (.int .i64 512) (.int .i64 512)).run Tryz.prog W = .ok (.slice (some ⟨W.heap.size, 0, none⟩) 512 512) (W.alloc (.cells (madeCells #[Value.int .u8 0] 512) 5)) := fun W => pmake_zeros 512 (by omega) W
    have hcv := pzeros_back 512
    rw [show (⟨(List.replicate 512 0).toArray⟩ : ByteArray) = zeroP from rfl] at hcv
    have hb2 := allocB w1 (.cells (madeCells #[Value.int .u8 0] 512) 5)
    rcases HD with hb | ⟨hb, hq0⟩
    · have hsd := sealB_is HNM.is
      have hnz := seal_zero HNM.is
      have hpl := seal_pl HNM
      rw [← hb] at hsd hnz hpl
      have hbs := hsd.2.2.2
      have HSD := Lib.hid (fun W => sealed_any b (by omega) W)
      rw [hsd.2.2.1] at HSD
      have HBA := Lib.hid (fun W => pbare_any b (by omega) W)
      rw [hpl] at HBA
      have hq : (b.toList == zeroP.toList) = false := by
        rw [beq_eq_false_iff_ne]
        intro h
        rw [ByteArray.toList_eq, ByteArray.toList_eq] at h
        exact hnz (ByteArray.ext (Array.toList_inj.1 h))
      clear hsd hpl hnz hbs hb HNM
      go_wp2_with (first
        | (go_at_call 103; (refine (HSD.out _).mono ?_); rintro e w2 ⟨rfl, hb3⟩)
        | (go_at_call 104; (refine (HBA.out _).mono ?_); rintro e w3 ⟨rfl, hb4⟩))
      go_ret2
      exact ⟨rfl, HB1.out.trans ((hb2.mono HB1.out.size).trans ((joinB hb3 hb4).mono (Nat.le_trans HB1.out.size hb2.size)))⟩
    · have hq : (b.toList == zeroP.toList) = true := by rw [hb]; exact beq_self_eq_true _
      have HNW := Lib.hid (fun W => show Calls Tryz.prog 42 #[.int .i64 0] W fun e w' => e = .returned (.string q) ∧ Below W.heap.size W w' from by rw [hq0]; exact new_any 0 W)
      clear hb hq0 HNM
      go_wp2_with (go_at_call 42; (refine (HNW.out _).mono ?_); rintro e w2 ⟨rfl, hb3⟩)
      go_ret2
      exact ⟨rfl, HB1.out.trans ((hb2.mono HB1.out.size).trans (hb3.mono (Nat.le_trans HB1.out.size hb2.size)))⟩
end Go.Proofs.YtmebkghdkeeobaaGreatDoor
