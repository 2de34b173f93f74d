import Derived.Test.YtmebkghdkeeobaaGreatDoorHo00
import Derived.Test.YtmebkghdkeeobaaGreatDoorHo09
set_option maxRecDepth 100000
set_option maxHeartbeats 16000000
set_option linter.unusedSimpArgs false
namespace Go.Proofs.YtmebkghdkeeobaaGreatDoor
open Go.RowKit
def StOut (x : Tx.St × Int) (p : SP) (w : World) (e : Ending) (w' : World) : Prop :=
  ∃ p' : SP, e = .returned (.tuple #[storeV x.1 p', .int .i64 x.2]) ∧ StoreR w' x.1 p' ∧ (p'.F = p.F ∧ p'.fn = p.fn ∧ p'.fc = p.fc) ∧ Below w.heap.size w w'
abbrev rbR (lsn prev txn kind next : Int) : Rc.Rec := ⟨lsn, prev, txn, kind, 0, next, 0, Rc.noOp, 0, 0, Rc.noKey, [], []⟩
set_option maxRecDepth 100000 in
set_option maxHeartbeats 8000000 in
theorem tnoted_any (s : Tx.St) (p : SP) (hb : Tx.LogB s) (hts : s.txns.length ≤ 800000) (lsn prev txn kind next : Int) (w : World) (h : StoreR w s p) :
    Calls Tryz.prog 47 #[storeV s p, .agg (rcA lsn prev txn kind 0 next 0 0 0 ⟨#[]⟩ ⟨#[]⟩ 0 0 ⟨#[]⟩ 0 0 (.slice none 0 0) (.slice none 0 0))] w (StOut (Tx.putS s (rbR lsn prev txn kind next)) p w) := by
  have HA := Lib.hid (fun W => append_any s.log hb.e0 (by have := hb.e1; omega) (by have := hb.n0; omega) (by have := hb.n1; omega) (by have := hb.t0; have := hb.e1; omega) (rbR lsn prev txn kind next) none none 0 0 W (recR_nil _ _ rfl rfl))
  have HS := Lib.hid h
  have hput : ∃ x, x = Tx.putS s (rbR lsn prev txn kind next) ∧ ((Lg.appendD s.log (rbR lsn prev txn kind next)).2.2 = 0 → x = ({ s with log := (Lg.appendD s.log (rbR lsn prev txn kind next)).1, txns := Tx.noteT s.txns (rbR (Lg.appendD s.log (rbR lsn prev txn kind next)).2.1 prev txn kind next) }, 0)) ∧ (¬ (Lg.appendD s.log (rbR lsn prev txn kind next)).2.2 = 0 → x = (s, (Lg.appendD s.log (rbR lsn prev txn kind next)).2.2)) := ⟨_, rfl, (fun h0 => by unfold Tx.putS; rw [if_pos h0]), (fun h0 => by unfold Tx.putS; rw [if_neg h0])⟩
  obtain ⟨x, hx, hx0, hx1⟩ := hput
  rw [← hx]
  clear hx
  generalize Lg.appendD s.log (rbR lsn prev txn kind next) = o at HA hx0 hx1
  obtain ⟨⟨gf, gn, ge, gs, gt⟩, n, e⟩ := o
  simp only at hx0 hx1
  have HNT := Lib.hid (fun W (hb : Below w.heap.size w W) => tnote_any s.txns (by omega) p.T p.tc (rbR n prev txn kind next) none none 0 0 0 0 W (h.tx.below hb))
  clear h hb
  by_cases he : e = 0
  · subst he
    have HX := Lib.hid (hx0 rfl)
    clear hx0 hx1
    have HF := Lib.hid (fun (A' : Option Addr) (c' : Nat) w' (hs : StoreR w' { s with log := ⟨gf, gn, ge, gs, gt⟩, txns := Tx.noteT s.txns (rbR n prev txn kind next) } ⟨p.A, p.c, p.F, p.fn, p.fc, A', c'⟩) (hb : Below w.heap.size w w') => show StOut x p w (.returned (.tuple #[storeV { s with log := ⟨gf, gn, ge, gs, gt⟩, txns := Tx.noteT s.txns (rbR n prev txn kind next) } ⟨p.A, p.c, p.F, p.fn, p.fc, A', c'⟩, .int .i64 0])) w' from by rw [HX.out]; exact ⟨_, rfl, hs, ⟨rfl, rfl, rfl⟩, hb⟩)
    generalize StOut x p w = Q at HF ⊢
    have hnl := Tx.noteT_len s.txns (rbR n prev txn kind next)
    generalize Tx.noteT s.txns (rbR n prev txn kind next) = ts2 at HNT HF hnl
    obtain ⟨zl, zp, zf, ⟨L, lf, dn⟩, ⟨fr, ln, en, sf, tl⟩, hd, ts, nx⟩ := s
    obtain ⟨A, c, FA, fn, fc, TA, tc⟩ := p
    dsimp only [storeV, recV, recA, logV, Rc.noOp, Rc.noKey, List.length_nil] at HA HNT HF ⊢
    clear HX
    go_enter Tryz.func47, Tryz.ntmps47
    go_upto_region 1 with fail
    have H0 := Lib.hid (show BxL w.heap.size w [(#[.int .i64 zl, .int .i64 zp, .int .i64 zf, .slice A L.length c, .int .i64 lf, .bool dn, .int .i64 fr, .int .i64 ln, .int .i64 en, .int .i64 sf, .string tl, .slice FA fn fc, .int .i64 hd, .slice TA ts.length tc, .int .i64 nx], 36), ((rcA lsn prev txn kind 0 next 0 0 0 ⟨#[]⟩ ⟨#[]⟩ 0 0 ⟨#[]⟩ 0 0 (.slice none 0 0) (.slice none 0 0)), 96), (#[.int .i64 0, .int .i64 0, .int .i64 0, .slice none 0 0, .int .i64 0, .bool false, .int .i64 0, .int .i64 0, .int .i64 0, .int .i64 0, .string ⟨#[]⟩, .slice none 0 0, .int .i64 0, .slice none 0 0, .int .i64 0], 36)] (((w.alloc (.cells #[.int .i64 zl, .int .i64 zp, .int .i64 zf, .slice A L.length c, .int .i64 lf, .bool dn, .int .i64 fr, .int .i64 ln, .int .i64 en, .int .i64 sf, .string tl, .slice FA fn fc, .int .i64 hd, .slice TA ts.length tc, .int .i64 nx] 36)).alloc (.cells (rcA lsn prev txn kind 0 next 0 0 0 ⟨#[]⟩ ⟨#[]⟩ 0 0 ⟨#[]⟩ 0 0 (.slice none 0 0) (.slice none 0 0)) 96)).alloc (.cells #[.int .i64 0, .int .i64 0, .int .i64 0, .slice none 0 0, .int .i64 0, .bool false, .int .i64 0, .int .i64 0, .int .i64 0, .int .i64 0, .string ⟨#[]⟩, .slice none 0 0, .int .i64 0, .slice none 0 0, .int .i64 0] 36)) from ((((BxL.nil (Below.refl w.heap.size w)).new (by simp) #[.int .i64 zl, .int .i64 zp, .int .i64 zf, .slice A L.length c, .int .i64 lf, .bool dn, .int .i64 fr, .int .i64 ln, .int .i64 en, .int .i64 sf, .string tl, .slice FA fn fc, .int .i64 hd, .slice TA ts.length tc, .int .i64 nx] 36).new (by simp) (rcA lsn prev txn kind 0 next 0 0 0 ⟨#[]⟩ ⟨#[]⟩ 0 0 ⟨#[]⟩ 0 0 (.slice none 0 0) (.slice none 0 0)) 96).new (by simp) #[.int .i64 0, .int .i64 0, .int .i64 0, .slice none 0 0, .int .i64 0, .bool false, .int .i64 0, .int .i64 0, .int .i64 0, .int .i64 0, .string ⟨#[]⟩, .slice none 0 0, .int .i64 0, .slice none 0 0, .int .i64 0] 36))
    obtain ⟨W0, hW0⟩ : ∃ W, W = (((w.alloc (.cells #[.int .i64 zl, .int .i64 zp, .int .i64 zf, .slice A L.length c, .int .i64 lf, .bool dn, .int .i64 fr, .int .i64 ln, .int .i64 en, .int .i64 sf, .string tl, .slice FA fn fc, .int .i64 hd, .slice TA ts.length tc, .int .i64 nx] 36)).alloc (.cells (rcA lsn prev txn kind 0 next 0 0 0 ⟨#[]⟩ ⟨#[]⟩ 0 0 ⟨#[]⟩ 0 0 (.slice none 0 0) (.slice none 0 0)) 96)).alloc (.cells #[.int .i64 0, .int .i64 0, .int .i64 0, .slice none 0 0, .int .i64 0, .bool false, .int .i64 0, .int .i64 0, .int .i64 0, .int .i64 0, .string ⟨#[]⟩, .slice none 0 0, .int .i64 0, .slice none 0 0, .int .i64 0] 36)) := ⟨_, rfl⟩
    rw [← hW0] at H0 ⊢
    clear hW0
    go_upto_region 2 with (first
      | (with_reducible refine listPart (by kernel_rfl) 30 (.tmp 10) rfl w.heap.size 6 rfl #[.int .i64 fr, .int .i64 ln, .int .i64 en, .int .i64 sf, .string tl] #[.int .i64 zl, .int .i64 zp, .int .i64 zf, .slice A L.length c, .int .i64 lf, .bool dn, .int .i64 fr, .int .i64 ln, .int .i64 en, .int .i64 sf, .string tl, .slice FA fn fc, .int .i64 hd, .slice TA ts.length tc, .int .i64 nx] _ H0.out.get0 (by kernel_rfl) _ Tryz.underlying30 (by kernel_rfl) (by kernel_rfl) ?_)
      | (with_reducible refine listLoad (by kernel_rfl) 96 (.tmp 3) rfl (w.heap.size + 1) rfl (rcA lsn prev txn kind 0 next 0 0 0 ⟨#[]⟩ ⟨#[]⟩ 0 0 ⟨#[]⟩ 0 0 (.slice none 0 0) (.slice none 0 0)) _ H0.out.get1 _ Tryz.underlying96 (by kernel_rfl) (by kernel_rfl) ?_)
      | (go_at_call 81; (with_reducible refine (HA.out _).mono ?_); rintro e w1 ⟨he1, hb1⟩; dsimp only [logV] at he1; subst he1)
      | (with_reducible refine wpList_store_new rfl 30 (.tmp 6) (.tmp 14) rfl #[.int .i64 gf, .int .i64 gn, .int .i64 ge, .int .i64 gs, .string gt] _ _ rfl (by kernel_rfl) (by kernel_rfl) (by kernel_rfl) (by kernel_rfl) ?_))
    have H1 := Lib.hid (H0.out.step (pastAlloc (o := .cells #[.int .i64 gf, .int .i64 gn, .int .i64 ge, .int .i64 gs, .string gt] 30) hb1))
    have HG := Lib.hid (heap_alloc_new w1 (.cells #[.int .i64 gf, .int .i64 gn, .int .i64 ge, .int .i64 gs, .string gt] 30))
    have hgb : w.heap.size + 3 ≤ w1.heap.size := Nat.le_trans (H0.out.lt (i := 2) (by simp)) hb1.size
    obtain ⟨gb, hge⟩ : ∃ gb, gb = w1.heap.size := ⟨_, rfl⟩
    obtain ⟨W1, hW1⟩ : ∃ W, W = w1.alloc (.cells #[.int .i64 gf, .int .i64 gn, .int .i64 ge, .int .i64 gs, .string gt] 30) := ⟨_, rfl⟩
    rw [← hge] at HG hgb
    rw [← hW1] at H1 HG
    rw [← hW1, ← hge]
    clear hge hW1 hb1 H0 HA
    have hc1 := blkCell H1.out.get1
    have hz1 := blkFrozen H1.out.get1
    go_upto_region 5 with fail
    have H2 := Lib.hid (H1.out.set 1 0 (.int .i64 n) _ rfl)
    have HG2 := Lib.hid (show (W1.setCell ⟨w.heap.size + 1, 0, none⟩ (.int .i64 n)).heap[gb]? = some (.cells #[.int .i64 gf, .int .i64 gn, .int .i64 ge, .int .i64 gs, .string gt] 30 (0, 0)) from (Below.heap_setCell _ _ _ _ (by show gb ≠ w.heap.size + 1; omega)).trans HG.out)
    obtain ⟨W2, hW2⟩ : ∃ W, W = W1.setCell ⟨w.heap.size + 1, 0, none⟩ (.int .i64 n) := ⟨_, rfl⟩
    rw [← hW2] at H2 HG2
    rw [← hW2]
    clear hW2 hc1 hz1 H1 HG
    go_upto_region 6 with (first
      | (with_reducible refine listLoad (by kernel_rfl) 30 (.tmp 6) rfl gb rfl #[.int .i64 gf, .int .i64 gn, .int .i64 ge, .int .i64 gs, .string gt] _ HG2.out _ Tryz.underlying30 (by kernel_rfl) (by kernel_rfl) ?_)
      | (with_reducible refine listPut (by kernel_rfl) 30 (.tmp 24) (.tmp 23) rfl w.heap.size 6 #[.int .i64 gf, .int .i64 gn, .int .i64 ge, .int .i64 gs, .string gt] #[.int .i64 zl, .int .i64 zp, .int .i64 zf, .slice A L.length c, .int .i64 lf, .bool dn, .int .i64 fr, .int .i64 ln, .int .i64 en, .int .i64 sf, .string tl, .slice FA fn fc, .int .i64 hd, .slice TA ts.length tc, .int .i64 nx] #[.int .i64 zl, .int .i64 zp, .int .i64 zf, .slice A L.length c, .int .i64 lf, .bool dn, .int .i64 gf, .int .i64 gn, .int .i64 ge, .int .i64 gs, .string gt, .slice FA fn fc, .int .i64 hd, .slice TA ts.length tc, .int .i64 nx] _ rfl rfl H2.out.get0 (by kernel_rfl) (by kernel_rfl) (by kernel_rfl) (by kernel_rfl) ?_))
    have H3 := Lib.hid (H2.out.row 0 #[.int .i64 zl, .int .i64 zp, .int .i64 zf, .slice A L.length c, .int .i64 lf, .bool dn, .int .i64 gf, .int .i64 gn, .int .i64 ge, .int .i64 gs, .string gt, .slice FA fn fc, .int .i64 hd, .slice TA ts.length tc, .int .i64 nx] _ rfl)
    simp only [Nat.add_zero] at H3
    obtain ⟨W3, hW3⟩ : ∃ W, W = W2.setRow w.heap.size #[.int .i64 zl, .int .i64 zp, .int .i64 zf, .slice A L.length c, .int .i64 lf, .bool dn, .int .i64 gf, .int .i64 gn, .int .i64 ge, .int .i64 gs, .string gt, .slice FA fn fc, .int .i64 hd, .slice TA ts.length tc, .int .i64 nx] := ⟨_, rfl⟩
    rw [← hW3] at H3
    rw [← hW3]
    clear hW3 H2 HG2
    have hc3 := blkCell H3.out.get0
    go_upto_region 7 with (first
      | (with_reducible refine listLoad (by kernel_rfl) 96 (.tmp 3) rfl (w.heap.size + 1) rfl (rcA n prev txn kind 0 next 0 0 0 ⟨#[]⟩ ⟨#[]⟩ 0 0 ⟨#[]⟩ 0 0 (.slice none 0 0) (.slice none 0 0)) _ H3.out.get1 _ Tryz.underlying96 (by kernel_rfl) (by kernel_rfl) ?_)
      | (go_at_call 82; (with_reducible refine (HNT.out _ H3.out.below).mono ?_); rintro e w4 ⟨A', c', rfl, hr4, ht4, hb4⟩; have H4 := Lib.hid (H3.out.step hb4); have hc4 := blkCell H4.out.get0; have hz4 := blkFrozen H4.out.get0; clear hc3))
    have HS4 := Lib.hid (show StoreR w4 ⟨zl, zp, zf, ⟨L, lf, dn⟩, ⟨gf, gn, ge, gs, gt⟩, hd, ts2, nx⟩ ⟨A, c, FA, fn, fc, A', c'⟩ from ⟨HS.out.dk.below H4.out.below, HS.out.dt.below H4.out.below, hr4, ht4.elim (fun e => by rw [e]; exact HS.out.tt.below H4.out.below) (fun e => e.mono (Nat.zero_le _))⟩)
    have HS5 := Lib.hid (HS4.out.set H4.out.get0 (by decide) (by decide) 13 (.slice A' ts2.length c'))
    have H5 := Lib.hid (H4.out.set 0 13 (.slice A' ts2.length c') _ rfl)
    simp only [Nat.add_zero] at H5
    obtain ⟨W5, hW5⟩ : ∃ W, W = w4.setCell ⟨w.heap.size, 13, none⟩ (.slice A' ts2.length c') := ⟨_, rfl⟩
    rw [← hW5] at H5 HS5
    rw [← hW5]
    clear hW5 hc4 hz4 H4 HS4 hr4 ht4 hb4 H3 HS HNT
    go_wp2_with (first
      | (with_reducible refine listLoad (by kernel_rfl) 36 (.tmp 2) rfl w.heap.size rfl #[.int .i64 zl, .int .i64 zp, .int .i64 zf, .slice A L.length c, .int .i64 lf, .bool dn, .int .i64 gf, .int .i64 gn, .int .i64 ge, .int .i64 gs, .string gt, .slice FA fn fc, .int .i64 hd, .slice A' ts2.length c', .int .i64 nx] _ H5.out.get0 _ Tryz.underlying36 (by kernel_rfl) (by kernel_rfl) ?_)
      | (with_reducible refine listStore (by kernel_rfl) 36 (.tmp 4) (.tmp 30) rfl (w.heap.size + 2) #[.int .i64 zl, .int .i64 zp, .int .i64 zf, .slice A L.length c, .int .i64 lf, .bool dn, .int .i64 gf, .int .i64 gn, .int .i64 ge, .int .i64 gs, .string gt, .slice FA fn fc, .int .i64 hd, .slice A' ts2.length c', .int .i64 nx] _ _ rfl rfl H5.out.get2 (by kernel_rfl) (by kernel_rfl) (by kernel_rfl) ?_))
    refine bodyPost_ret (v := .tuple #[.agg #[.int .i64 zl, .int .i64 zp, .int .i64 zf, .slice A L.length c, .int .i64 lf, .bool dn, .int .i64 gf, .int .i64 gn, .int .i64 ge, .int .i64 gs, .string gt, .slice FA fn fc, .int .i64 hd, .slice A' ts2.length c', .int .i64 nx], .int .i64 0]) (results_cell2 rfl _ _ rfl (load_whole (setRow_heap _ _ _ _ _ _ H5.out.get2) Tryz.underlying36 (by kernel_rfl) (by kernel_rfl)) rfl) rfl ?_
    exact HF.out A' c' _ (HS5.out.other H5.out.get2 (by decide) (by decide) _) ((H5.out.row 2 _ _ rfl).below)
  · have HX := Lib.hid (hx1 he)
    have he1 : (e == 0) = false := by simpa using he
    have he2 : (e != 0) = true := by simpa using he
    clear hx0 hx1 he HNT
    have HF := Lib.hid (fun w' (hb : Below w.heap.size w w') => show StOut x p w (.returned (.tuple #[storeV s p, .int .i64 e])) w' from by rw [HX.out]; exact ⟨_, rfl, HS.out.below hb, ⟨rfl, rfl, rfl⟩, hb⟩)
    generalize StOut x p w = Q at HF ⊢
    clear HX HS hts
    obtain ⟨zl, zp, zf, ⟨L, lf, dn⟩, ⟨fr, ln, en, sf, tl⟩, hd, ts, nx⟩ := s
    obtain ⟨A, c, FA, fn, fc, TA, tc⟩ := p
    dsimp only [storeV, recV, recA, logV, Rc.noOp, Rc.noKey, List.length_nil] at HA HF ⊢
    go_enter Tryz.func47, Tryz.ntmps47
    go_upto_region 1 with fail
    have H0 := Lib.hid (show BxL w.heap.size w [(#[.int .i64 zl, .int .i64 zp, .int .i64 zf, .slice A L.length c, .int .i64 lf, .bool dn, .int .i64 fr, .int .i64 ln, .int .i64 en, .int .i64 sf, .string tl, .slice FA fn fc, .int .i64 hd, .slice TA ts.length tc, .int .i64 nx], 36), ((rcA lsn prev txn kind 0 next 0 0 0 ⟨#[]⟩ ⟨#[]⟩ 0 0 ⟨#[]⟩ 0 0 (.slice none 0 0) (.slice none 0 0)), 96), (#[.int .i64 0, .int .i64 0, .int .i64 0, .slice none 0 0, .int .i64 0, .bool false, .int .i64 0, .int .i64 0, .int .i64 0, .int .i64 0, .string ⟨#[]⟩, .slice none 0 0, .int .i64 0, .slice none 0 0, .int .i64 0], 36)] (((w.alloc (.cells #[.int .i64 zl, .int .i64 zp, .int .i64 zf, .slice A L.length c, .int .i64 lf, .bool dn, .int .i64 fr, .int .i64 ln, .int .i64 en, .int .i64 sf, .string tl, .slice FA fn fc, .int .i64 hd, .slice TA ts.length tc, .int .i64 nx] 36)).alloc (.cells (rcA lsn prev txn kind 0 next 0 0 0 ⟨#[]⟩ ⟨#[]⟩ 0 0 ⟨#[]⟩ 0 0 (.slice none 0 0) (.slice none 0 0)) 96)).alloc (.cells #[.int .i64 0, .int .i64 0, .int .i64 0, .slice none 0 0, .int .i64 0, .bool false, .int .i64 0, .int .i64 0, .int .i64 0, .int .i64 0, .string ⟨#[]⟩, .slice none 0 0, .int .i64 0, .slice none 0 0, .int .i64 0] 36)) from ((((BxL.nil (Below.refl w.heap.size w)).new (by simp) #[.int .i64 zl, .int .i64 zp, .int .i64 zf, .slice A L.length c, .int .i64 lf, .bool dn, .int .i64 fr, .int .i64 ln, .int .i64 en, .int .i64 sf, .string tl, .slice FA fn fc, .int .i64 hd, .slice TA ts.length tc, .int .i64 nx] 36).new (by simp) (rcA lsn prev txn kind 0 next 0 0 0 ⟨#[]⟩ ⟨#[]⟩ 0 0 ⟨#[]⟩ 0 0 (.slice none 0 0) (.slice none 0 0)) 96).new (by simp) #[.int .i64 0, .int .i64 0, .int .i64 0, .slice none 0 0, .int .i64 0, .bool false, .int .i64 0, .int .i64 0, .int .i64 0, .int .i64 0, .string ⟨#[]⟩, .slice none 0 0, .int .i64 0, .slice none 0 0, .int .i64 0] 36))
    obtain ⟨W0, hW0⟩ : ∃ W, W = (((w.alloc (.cells #[.int .i64 zl, .int .i64 zp, .int .i64 zf, .slice A L.length c, .int .i64 lf, .bool dn, .int .i64 fr, .int .i64 ln, .int .i64 en, .int .i64 sf, .string tl, .slice FA fn fc, .int .i64 hd, .slice TA ts.length tc, .int .i64 nx] 36)).alloc (.cells (rcA lsn prev txn kind 0 next 0 0 0 ⟨#[]⟩ ⟨#[]⟩ 0 0 ⟨#[]⟩ 0 0 (.slice none 0 0) (.slice none 0 0)) 96)).alloc (.cells #[.int .i64 0, .int .i64 0, .int .i64 0, .slice none 0 0, .int .i64 0, .bool false, .int .i64 0, .int .i64 0, .int .i64 0, .int .i64 0, .string ⟨#[]⟩, .slice none 0 0, .int .i64 0, .slice none 0 0, .int .i64 0] 36)) := ⟨_, rfl⟩
    rw [← hW0] at H0 ⊢
    clear hW0
    go_upto_region 2 with (first
      | (with_reducible refine listPart (by kernel_rfl) 30 (.tmp 10) rfl w.heap.size 6 rfl #[.int .i64 fr, .int .i64 ln, .int .i64 en, .int .i64 sf, .string tl] #[.int .i64 zl, .int .i64 zp, .int .i64 zf, .slice A L.length c, .int .i64 lf, .bool dn, .int .i64 fr, .int .i64 ln, .int .i64 en, .int .i64 sf, .string tl, .slice FA fn fc, .int .i64 hd, .slice TA ts.length tc, .int .i64 nx] _ H0.out.get0 (by kernel_rfl) _ Tryz.underlying30 (by kernel_rfl) (by kernel_rfl) ?_)
      | (with_reducible refine listLoad (by kernel_rfl) 96 (.tmp 3) rfl (w.heap.size + 1) rfl (rcA lsn prev txn kind 0 next 0 0 0 ⟨#[]⟩ ⟨#[]⟩ 0 0 ⟨#[]⟩ 0 0 (.slice none 0 0) (.slice none 0 0)) _ H0.out.get1 _ Tryz.underlying96 (by kernel_rfl) (by kernel_rfl) ?_)
      | (go_at_call 81; (with_reducible refine (HA.out _).mono ?_); rintro e1 w1 ⟨he1, hb1⟩; dsimp only [logV] at he1; subst he1)
      | (with_reducible refine wpList_store_new rfl 30 (.tmp 6) (.tmp 14) rfl #[.int .i64 gf, .int .i64 gn, .int .i64 ge, .int .i64 gs, .string gt] _ _ rfl (by kernel_rfl) (by kernel_rfl) (by kernel_rfl) (by kernel_rfl) ?_))
    have H1 := Lib.hid (H0.out.step (pastAlloc (o := .cells #[.int .i64 gf, .int .i64 gn, .int .i64 ge, .int .i64 gs, .string gt] 30) hb1))
    obtain ⟨W1, hW1⟩ : ∃ W, W = w1.alloc (.cells #[.int .i64 gf, .int .i64 gn, .int .i64 ge, .int .i64 gs, .string gt] 30) := ⟨_, rfl⟩
    rw [← hW1] at H1
    rw [← hW1]
    clear hW1 hb1 H0 HA
    go_wp2_with (first
      | (with_reducible refine listLoad (by kernel_rfl) 36 (.tmp 2) rfl w.heap.size rfl #[.int .i64 zl, .int .i64 zp, .int .i64 zf, .slice A L.length c, .int .i64 lf, .bool dn, .int .i64 fr, .int .i64 ln, .int .i64 en, .int .i64 sf, .string tl, .slice FA fn fc, .int .i64 hd, .slice TA ts.length tc, .int .i64 nx] _ H1.out.get0 _ Tryz.underlying36 (by kernel_rfl) (by kernel_rfl) ?_)
      | (with_reducible refine listStore (by kernel_rfl) 36 (.tmp 4) (.tmp 19) rfl (w.heap.size + 2) #[.int .i64 zl, .int .i64 zp, .int .i64 zf, .slice A L.length c, .int .i64 lf, .bool dn, .int .i64 fr, .int .i64 ln, .int .i64 en, .int .i64 sf, .string tl, .slice FA fn fc, .int .i64 hd, .slice TA ts.length tc, .int .i64 nx] _ _ rfl rfl H1.out.get2 (by kernel_rfl) (by kernel_rfl) (by kernel_rfl) ?_))
    refine bodyPost_ret (v := .tuple #[.agg #[.int .i64 zl, .int .i64 zp, .int .i64 zf, .slice A L.length c, .int .i64 lf, .bool dn, .int .i64 fr, .int .i64 ln, .int .i64 en, .int .i64 sf, .string tl, .slice FA fn fc, .int .i64 hd, .slice TA ts.length tc, .int .i64 nx], .int .i64 e]) (results_cell2 rfl _ _ rfl (load_whole (setRow_heap _ _ _ _ _ _ H1.out.get2) Tryz.underlying36 (by kernel_rfl) (by kernel_rfl)) rfl) rfl ?_
    exact HF.out _ ((H1.out.row 2 _ _ rfl).below)
end Go.Proofs.YtmebkghdkeeobaaGreatDoor
namespace Tx
end Tx
namespace Go.Proofs.YtmebkghdkeeobaaGreatDoor
open Go.RowKit
end Go.Proofs.YtmebkghdkeeobaaGreatDoor
namespace Tx
theorem putS_next (s : St) (r : Rc.Rec) : (putS s r).1.next = s.next := by unfold putS; split <;> rfl
theorem beginS_ok {s : St} (h : (putS s (Rc.bare 1 0 0 s.next)).2 = 0) : beginS s = ({ (putS s (Rc.bare 1 0 0 s.next)).1 with next := (putS s (Rc.bare 1 0 0 s.next)).1.next + 1 }, s.next, 0) := by unfold beginS; rw [if_pos h, putS_next]
theorem beginS_no {s : St} (h : ¬ (putS s (Rc.bare 1 0 0 s.next)).2 = 0) : beginS s = (s, 0, (putS s (Rc.bare 1 0 0 s.next)).2) := by unfold beginS; rw [if_neg h]
end Tx
namespace Go.Proofs.YtmebkghdkeeobaaGreatDoor
open Go.RowKit
def BegOut (x : Tx.St × Int × Int) (p : SP) (w : World) (e : Ending) (w' : World) : Prop :=
  ∃ p' : SP, e = .returned (.tuple #[storeV x.1 p', .int .i64 x.2.1, .int .i64 x.2.2]) ∧ StoreR w' x.1 p' ∧ (p'.F = p.F ∧ p'.fn = p.fn ∧ p'.fc = p.fc) ∧ Below w.heap.size w w'
set_option maxRecDepth 100000 in
set_option maxHeartbeats 8000000 in
theorem tbegin_any (s : Tx.St) (p : SP) (hb : Tx.LogB s) (hts : s.txns.length ≤ 800000) (hnx0 : 0 ≤ s.next) (hnx1 : s.next ≤ 1000000000) (w : World) (h : StoreR w s p) :
    Calls Tryz.prog 24 #[storeV s p] w (BegOut (Tx.beginS s) p w) := by
  have HNO := Lib.hid (fun W (hw : Below w.heap.size w W) => show Calls Tryz.prog 47 #[storeV s p, .agg (rcA 0 0 s.next 1 0 0 0 0 0 ⟨#[]⟩ ⟨#[]⟩ 0 0 ⟨#[]⟩ 0 0 (.slice none 0 0) (.slice none 0 0))] W (StOut (Tx.putS s (Rc.bare 1 0 0 s.next)) p W) from tnoted_any s p hb hts 0 0 s.next 1 0 W (h.below hw))
  have hk := @Tx.beginS_ok s
  have hn := @Tx.beginS_no s
  have hx := Tx.putS_next s (Rc.bare 1 0 0 s.next)
  generalize Tx.putS s (Rc.bare 1 0 0 s.next) = y at HNO hk hn hx
  obtain ⟨⟨zl2, zp2, zf2, ⟨L2, lf2, dn2⟩, ⟨fr2, ln2, en2, sf2, tl2⟩, hd2, ts2, nx2⟩, e2⟩ := y
  simp only at hk hn hx
  by_cases he : e2 = 0
  · subst he
    have HM := Lib.hid (fun (p' : SP) w' (hs : StoreR w' ⟨zl2, zp2, zf2, ⟨L2, lf2, dn2⟩, ⟨fr2, ln2, en2, sf2, tl2⟩, hd2, ts2, nx2 + 1⟩ p') (hf : p'.F = p.F ∧ p'.fn = p.fn ∧ p'.fc = p.fc) (hb : Below w.heap.size w w') => show BegOut (Tx.beginS s) p w (.returned (.tuple #[storeV ⟨zl2, zp2, zf2, ⟨L2, lf2, dn2⟩, ⟨fr2, ln2, en2, sf2, tl2⟩, hd2, ts2, nx2 + 1⟩ p', .int .i64 s.next, .int .i64 0])) w' from by rw [hk rfl]; exact ⟨_, rfl, hs, hf, hb⟩)
    generalize BegOut (Tx.beginS s) p w = Q at HM ⊢
    have hwn : IntKind.i64.wrap (nx2 + 1) = nx2 + 1 := IntWalk.i64_in _ (by omega)
    clear hk hn hx h hb hts hnx0 hnx1
    obtain ⟨zl, zp, zf, ⟨L, lf, dn⟩, ⟨fr, ln, en, sf, tl⟩, hd, ts, nx⟩ := s
    obtain ⟨A, c, FA, fn, fc, TA, tc⟩ := p
    dsimp only [storeV] at HNO HM ⊢
    go_enter Tryz.func24, Tryz.ntmps24
    go_upto_region 1 with fail
    have H0 := Lib.hid (show BxL w.heap.size w [(#[.int .i64 zl, .int .i64 zp, .int .i64 zf, .slice A L.length c, .int .i64 lf, .bool dn, .int .i64 fr, .int .i64 ln, .int .i64 en, .int .i64 sf, .string tl, .slice FA fn fc, .int .i64 hd, .slice TA ts.length tc, .int .i64 nx], 36), (#[.int .i64 0, .int .i64 0, .int .i64 0, .slice none 0 0, .int .i64 0, .bool false, .int .i64 0, .int .i64 0, .int .i64 0, .int .i64 0, .string ⟨#[]⟩, .slice none 0 0, .int .i64 0, .slice none 0 0, .int .i64 0], 36)] ((w.alloc (.cells #[.int .i64 zl, .int .i64 zp, .int .i64 zf, .slice A L.length c, .int .i64 lf, .bool dn, .int .i64 fr, .int .i64 ln, .int .i64 en, .int .i64 sf, .string tl, .slice FA fn fc, .int .i64 hd, .slice TA ts.length tc, .int .i64 nx] 36)).alloc (.cells #[.int .i64 0, .int .i64 0, .int .i64 0, .slice none 0 0, .int .i64 0, .bool false, .int .i64 0, .int .i64 0, .int .i64 0, .int .i64 0, .string ⟨#[]⟩, .slice none 0 0, .int .i64 0, .slice none 0 0, .int .i64 0] 36)) from (((BxL.nil (Below.refl w.heap.size w)).new (by simp) #[.int .i64 zl, .int .i64 zp, .int .i64 zf, .slice A L.length c, .int .i64 lf, .bool dn, .int .i64 fr, .int .i64 ln, .int .i64 en, .int .i64 sf, .string tl, .slice FA fn fc, .int .i64 hd, .slice TA ts.length tc, .int .i64 nx] 36).new (by simp) #[.int .i64 0, .int .i64 0, .int .i64 0, .slice none 0 0, .int .i64 0, .bool false, .int .i64 0, .int .i64 0, .int .i64 0, .int .i64 0, .string ⟨#[]⟩, .slice none 0 0, .int .i64 0, .slice none 0 0, .int .i64 0] 36))
    obtain ⟨W0, hW0⟩ : ∃ W, W = ((w.alloc (.cells #[.int .i64 zl, .int .i64 zp, .int .i64 zf, .slice A L.length c, .int .i64 lf, .bool dn, .int .i64 fr, .int .i64 ln, .int .i64 en, .int .i64 sf, .string tl, .slice FA fn fc, .int .i64 hd, .slice TA ts.length tc, .int .i64 nx] 36)).alloc (.cells #[.int .i64 0, .int .i64 0, .int .i64 0, .slice none 0 0, .int .i64 0, .bool false, .int .i64 0, .int .i64 0, .int .i64 0, .int .i64 0, .string ⟨#[]⟩, .slice none 0 0, .int .i64 0, .slice none 0 0, .int .i64 0] 36)) := ⟨_, rfl⟩
    rw [← hW0] at H0 ⊢
    clear hW0
    have hc0 := blkCell H0.out.get0
    go_upto_region 2 with (first
      | (with_reducible refine listLoad (by kernel_rfl) 36 (.tmp 1) rfl w.heap.size rfl #[.int .i64 zl, .int .i64 zp, .int .i64 zf, .slice A L.length c, .int .i64 lf, .bool dn, .int .i64 fr, .int .i64 ln, .int .i64 en, .int .i64 sf, .string tl, .slice FA fn fc, .int .i64 hd, .slice TA ts.length tc, .int .i64 nx] _ H0.out.get0 _ Tryz.underlying36 (by kernel_rfl) (by kernel_rfl) ?_)
      | (go_at_call 47; (with_reducible refine (HNO.out _ H0.out.below).mono ?_); rintro e w5 ⟨p', he, hs5, hf5, hb5⟩; have HF5 := Lib.hid hf5; clear hf5; obtain ⟨A2, c2, FA2, fn2, fc2, TA2, tc2⟩ := p'; (try dsimp only [storeV] at he); subst he)
      | (with_reducible refine wpList_store_new rfl 36 (.tmp 5) (.tmp 13) rfl #[.int .i64 zl2, .int .i64 zp2, .int .i64 zf2, .slice A2 L2.length c2, .int .i64 lf2, .bool dn2, .int .i64 fr2, .int .i64 ln2, .int .i64 en2, .int .i64 sf2, .string tl2, .slice FA2 fn2 fc2, .int .i64 hd2, .slice TA2 ts2.length tc2, .int .i64 nx2] _ _ rfl (by kernel_rfl) (by kernel_rfl) (by kernel_rfl) (by kernel_rfl) ?_))
    have H5 := Lib.hid (H0.out.step (pastAlloc (o := .cells #[.int .i64 zl2, .int .i64 zp2, .int .i64 zf2, .slice A2 L2.length c2, .int .i64 lf2, .bool dn2, .int .i64 fr2, .int .i64 ln2, .int .i64 en2, .int .i64 sf2, .string tl2, .slice FA2 fn2 fc2, .int .i64 hd2, .slice TA2 ts2.length tc2, .int .i64 nx2] 36) hb5))
    have HG := Lib.hid (heap_alloc_new w5 (.cells #[.int .i64 zl2, .int .i64 zp2, .int .i64 zf2, .slice A2 L2.length c2, .int .i64 lf2, .bool dn2, .int .i64 fr2, .int .i64 ln2, .int .i64 en2, .int .i64 sf2, .string tl2, .slice FA2 fn2 fc2, .int .i64 hd2, .slice TA2 ts2.length tc2, .int .i64 nx2] 36))
    have HS5 := Lib.hid (hs5.below (allocB w5 (.cells #[.int .i64 zl2, .int .i64 zp2, .int .i64 zf2, .slice A2 L2.length c2, .int .i64 lf2, .bool dn2, .int .i64 fr2, .int .i64 ln2, .int .i64 en2, .int .i64 sf2, .string tl2, .slice FA2 fn2 fc2, .int .i64 hd2, .slice TA2 ts2.length tc2, .int .i64 nx2] 36)))
    have hgb : w.heap.size + 2 ≤ w5.heap.size := Nat.le_trans (H0.out.lt (i := 1) (by simp)) hb5.size
    obtain ⟨gb, hge⟩ : ∃ gb, gb = w5.heap.size := ⟨_, rfl⟩
    obtain ⟨W5, hW5⟩ : ∃ W, W = w5.alloc (.cells #[.int .i64 zl2, .int .i64 zp2, .int .i64 zf2, .slice A2 L2.length c2, .int .i64 lf2, .bool dn2, .int .i64 fr2, .int .i64 ln2, .int .i64 en2, .int .i64 sf2, .string tl2, .slice FA2 fn2 fc2, .int .i64 hd2, .slice TA2 ts2.length tc2, .int .i64 nx2] 36) := ⟨_, rfl⟩
    rw [← hge] at HG hgb
    rw [← hW5] at H5 HG HS5
    rw [← hW5, ← hge]
    clear hge hW5 hb5 hs5 H0 hc0 HNO
    have hcg := blkCell HG.out
    have hzg := blkFrozen HG.out
    go_upto_region 5 with fail
    have HG2 := Lib.hid (show (W5.setCell ⟨gb, 14, none⟩ (.int .i64 (nx2 + 1))).heap[gb]? = some (.cells #[.int .i64 zl2, .int .i64 zp2, .int .i64 zf2, .slice A2 L2.length c2, .int .i64 lf2, .bool dn2, .int .i64 fr2, .int .i64 ln2, .int .i64 en2, .int .i64 sf2, .string tl2, .slice FA2 fn2 fc2, .int .i64 hd2, .slice TA2 ts2.length tc2, .int .i64 (nx2 + 1)] 36 (0, 0)) from by have h := blkSet 14 HG.out (.int .i64 (nx2 + 1)); simpa using h)
    have H6 := Lib.hid (H5.out.under (M := gb) (by show w.heap.size + 2 ≤ gb; exact hgb) ((Below.refl gb W5).setCell (p := ⟨gb, 14, none⟩) (Nat.le_refl gb) (.int .i64 (nx2 + 1))))
    have HS6 := Lib.hid (show StoreR (W5.setCell ⟨gb, 14, none⟩ (.int .i64 (nx2 + 1))) ⟨zl2, zp2, zf2, ⟨L2, lf2, dn2⟩, ⟨fr2, ln2, en2, sf2, tl2⟩, hd2, ts2, nx2 + 1⟩ ⟨A2, c2, FA2, fn2, fc2, TA2, tc2⟩ from by have h := HS5.out.set HG.out (by decide) (by decide) 14 (.int .i64 (nx2 + 1)); exact ⟨h.dk, h.dt, h.tx, h.tt⟩)
    obtain ⟨W6, hW6⟩ : ∃ W, W = W5.setCell ⟨gb, 14, none⟩ (.int .i64 (nx2 + 1)) := ⟨_, rfl⟩
    rw [← hW6] at HG2 H6 HS6
    rw [← hW6]
    clear hW6 hcg hzg HG H5 HS5
    have X0 := blkOld HG2.out (Below.refl _ W6).drew
    have K0 := H6.out.drew
    have S0 := HS6.out.below (Below.refl _ W6).drew
    refine wp_region_held_drew (S := (fun u => u.heap[gb]? = some (.cells #[.int .i64 zl2, .int .i64 zp2, .int .i64 zf2, .slice A2 L2.length c2, .int .i64 lf2, .bool dn2, .int .i64 fr2, .int .i64 ln2, .int .i64 en2, .int .i64 sf2, .string tl2, .slice FA2 fn2 fc2, .int .i64 hd2, .slice TA2 ts2.length tc2, .int .i64 (nx2 + 1)] 36 (0, 0)) ∧ u.heap[w.heap.size]? = some (.cells #[.int .i64 zl, .int .i64 zp, .int .i64 zf, .slice A L.length c, .int .i64 lf, .bool dn, .int .i64 fr, .int .i64 ln, .int .i64 en, .int .i64 sf, .string tl, .slice FA fn fc, .int .i64 hd, .slice TA ts.length tc, .int .i64 nx] 36 (0, 0)))) (by kernel_rfl) ?_ (fun hHeld => ?_)
    · first | exact hSn | exact ⟨X0, K0.get0⟩
    refine tkV 0 (some 23) (v := .agg #[.int .i64 zl2, .int .i64 zp2, .int .i64 zf2, .slice A2 L2.length c2, .int .i64 lf2, .bool dn2, .int .i64 fr2, .int .i64 ln2, .int .i64 en2, .int .i64 sf2, .string tl2, .slice FA2 fn2 fc2, .int .i64 hd2, .slice TA2 ts2.length tc2, .int .i64 (nx2 + 1)]) rfl (yieldsIf_load_mid (by rfl) 36 (.tmp 5) rfl gb 0 (by rfl) #[.int .i64 zl2, .int .i64 zp2, .int .i64 zf2, .slice A2 L2.length c2, .int .i64 lf2, .bool dn2, .int .i64 fr2, .int .i64 ln2, .int .i64 en2, .int .i64 sf2, .string tl2, .slice FA2 fn2 fc2, .int .i64 hd2, .slice TA2 ts2.length tc2, .int .i64 (nx2 + 1)].toList _ (fun u hu => (by intro j v hj; rw [Nat.zero_add, blkCell hu.1]; simpa using hj)) Tryz.underlying36 (by kernel_rfl) (by kernel_rfl)) ?_
    try simp only [Act.put, pS]
    refine tkW 1 (some 24) (v := ?_) rfl ?_ (tkW 2 (some 25) (v := ?_) rfl ?_ ?_)
    iterate 2 (rotate_left; focus (intro u hSu; have hSv := blkCell hSu.2; clear hSu; go_simp; (try with_reducible rfl)))
    try simp only [Act.put, pS]
    refine rdH 3 none rfl (fun K hK => ?_)
    refine wantedIf (by rfl) ?_
    refine wp_store_whole 36 (.tmp 2) (.tmp 23) rfl (w.heap.size + 1) #[.int .i64 zl2, .int .i64 zp2, .int .i64 zf2, .slice A2 L2.length c2, .int .i64 lf2, .bool dn2, .int .i64 fr2, .int .i64 ln2, .int .i64 en2, .int .i64 sf2, .string tl2, .slice FA2 fn2 fc2, .int .i64 hd2, .slice TA2 ts2.length tc2, .int .i64 (nx2 + 1)] _ _ rfl rfl K0.get1 (by kernel_rfl) (by kernel_rfl) (by kernel_rfl) ?_
    have K1 := K0.row 1 #[.int .i64 zl2, .int .i64 zp2, .int .i64 zf2, .slice A2 L2.length c2, .int .i64 lf2, .bool dn2, .int .i64 fr2, .int .i64 ln2, .int .i64 en2, .int .i64 sf2, .string tl2, .slice FA2 fn2 fc2, .int .i64 hd2, .slice TA2 ts2.length tc2, .int .i64 (nx2 + 1)] _ rfl
    have hSn := And.intro ((heap_setRow_other _ (w.heap.size + 1) #[.int .i64 zl2, .int .i64 zp2, .int .i64 zf2, .slice A2 L2.length c2, .int .i64 lf2, .bool dn2, .int .i64 fr2, .int .i64 ln2, .int .i64 en2, .int .i64 sf2, .string tl2, .slice FA2 fn2 fc2, .int .i64 hd2, .slice TA2 ts2.length tc2, .int .i64 (nx2 + 1)] gb (by omega)).trans X0) K1.get0
    refine hK.out _ _ ?_ (fun hHeld => ?_)
    · first | exact hSn | exact ⟨X0, K0.get0⟩
    clear hK K
    try simp only [Act.put]
    refine tkW 4 (some 3) (v := ?_) rfl ?_ (tkW 5 (some 4) (v := ?_) rfl ?_ ?_)
    iterate 2 (rotate_left; focus (intro u hSu; have hSv := blkCell hSu.2; clear hSu; go_simp; (try with_reducible rfl)))
    try simp only [Act.put, pS]
    refine wpAnyH_done (by kernel_rfl) ?_ _
    clear hHeld hSn
    go_wp2_with fail
    refine bodyPost_ret (v := .tuple #[.agg #[.int .i64 zl2, .int .i64 zp2, .int .i64 zf2, .slice A2 L2.length c2, .int .i64 lf2, .bool dn2, .int .i64 fr2, .int .i64 ln2, .int .i64 en2, .int .i64 sf2, .string tl2, .slice FA2 fn2 fc2, .int .i64 hd2, .slice TA2 ts2.length tc2, .int .i64 (nx2 + 1)], .int .i64 nx, .int .i64 0]) (results_cell3 rfl _ _ rfl (load_whole (setRow_heap _ _ _ _ _ _ K0.get1) Tryz.underlying36 (by kernel_rfl) (by kernel_rfl)) rfl rfl) rfl ?_
    exact HM.out ⟨A2, c2, FA2, fn2, fc2, TA2, tc2⟩ _ (S0.other K0.get1 (by decide) (by decide) _) HF5.out (K1.below)
  · have he1 : (e2 == 0) = false := by simpa using he
    have he2 : (e2 != 0) = true := by simpa using he
    have HM := Lib.hid (fun w' (hb : Below w.heap.size w w') => show BegOut (Tx.beginS s) p w (.returned (.tuple #[storeV s p, .int .i64 0, .int .i64 e2])) w' from by rw [hn he]; exact ⟨_, rfl, h.below hb, ⟨rfl, rfl, rfl⟩, hb⟩)
    generalize BegOut (Tx.beginS s) p w = Q at HM ⊢
    clear hk hn hx h hb hts hnx0 hnx1 he
    obtain ⟨zl, zp, zf, ⟨L, lf, dn⟩, ⟨fr, ln, en, sf, tl⟩, hd, ts, nx⟩ := s
    obtain ⟨A, c, FA, fn, fc, TA, tc⟩ := p
    dsimp only [storeV] at HNO HM ⊢
    go_enter Tryz.func24, Tryz.ntmps24
    go_upto_region 1 with fail
    have H0 := Lib.hid (show BxL w.heap.size w [(#[.int .i64 zl, .int .i64 zp, .int .i64 zf, .slice A L.length c, .int .i64 lf, .bool dn, .int .i64 fr, .int .i64 ln, .int .i64 en, .int .i64 sf, .string tl, .slice FA fn fc, .int .i64 hd, .slice TA ts.length tc, .int .i64 nx], 36), (#[.int .i64 0, .int .i64 0, .int .i64 0, .slice none 0 0, .int .i64 0, .bool false, .int .i64 0, .int .i64 0, .int .i64 0, .int .i64 0, .string ⟨#[]⟩, .slice none 0 0, .int .i64 0, .slice none 0 0, .int .i64 0], 36)] ((w.alloc (.cells #[.int .i64 zl, .int .i64 zp, .int .i64 zf, .slice A L.length c, .int .i64 lf, .bool dn, .int .i64 fr, .int .i64 ln, .int .i64 en, .int .i64 sf, .string tl, .slice FA fn fc, .int .i64 hd, .slice TA ts.length tc, .int .i64 nx] 36)).alloc (.cells #[.int .i64 0, .int .i64 0, .int .i64 0, .slice none 0 0, .int .i64 0, .bool false, .int .i64 0, .int .i64 0, .int .i64 0, .int .i64 0, .string ⟨#[]⟩, .slice none 0 0, .int .i64 0, .slice none 0 0, .int .i64 0] 36)) from (((BxL.nil (Below.refl w.heap.size w)).new (by simp) #[.int .i64 zl, .int .i64 zp, .int .i64 zf, .slice A L.length c, .int .i64 lf, .bool dn, .int .i64 fr, .int .i64 ln, .int .i64 en, .int .i64 sf, .string tl, .slice FA fn fc, .int .i64 hd, .slice TA ts.length tc, .int .i64 nx] 36).new (by simp) #[.int .i64 0, .int .i64 0, .int .i64 0, .slice none 0 0, .int .i64 0, .bool false, .int .i64 0, .int .i64 0, .int .i64 0, .int .i64 0, .string ⟨#[]⟩, .slice none 0 0, .int .i64 0, .slice none 0 0, .int .i64 0] 36))
    obtain ⟨W0, hW0⟩ : ∃ W, W = ((w.alloc (.cells #[.int .i64 zl, .int .i64 zp, .int .i64 zf, .slice A L.length c, .int .i64 lf, .bool dn, .int .i64 fr, .int .i64 ln, .int .i64 en, .int .i64 sf, .string tl, .slice FA fn fc, .int .i64 hd, .slice TA ts.length tc, .int .i64 nx] 36)).alloc (.cells #[.int .i64 0, .int .i64 0, .int .i64 0, .slice none 0 0, .int .i64 0, .bool false, .int .i64 0, .int .i64 0, .int .i64 0, .int .i64 0, .string ⟨#[]⟩, .slice none 0 0, .int .i64 0, .slice none 0 0, .int .i64 0] 36)) := ⟨_, rfl⟩
    rw [← hW0] at H0 ⊢
    clear hW0
    have hc0 := blkCell H0.out.get0
    go_upto_region 2 with (first
      | (with_reducible refine listLoad (by kernel_rfl) 36 (.tmp 1) rfl w.heap.size rfl #[.int .i64 zl, .int .i64 zp, .int .i64 zf, .slice A L.length c, .int .i64 lf, .bool dn, .int .i64 fr, .int .i64 ln, .int .i64 en, .int .i64 sf, .string tl, .slice FA fn fc, .int .i64 hd, .slice TA ts.length tc, .int .i64 nx] _ H0.out.get0 _ Tryz.underlying36 (by kernel_rfl) (by kernel_rfl) ?_)
      | (go_at_call 47; (with_reducible refine (HNO.out _ H0.out.below).mono ?_); rintro e w5 ⟨p', he, hs5, hf5, hb5⟩; clear hf5 hs5; obtain ⟨A2, c2, FA2, fn2, fc2, TA2, tc2⟩ := p'; (try dsimp only [storeV] at he); subst he)
      | (with_reducible refine wpList_store_new rfl 36 (.tmp 5) (.tmp 13) rfl #[.int .i64 zl2, .int .i64 zp2, .int .i64 zf2, .slice A2 L2.length c2, .int .i64 lf2, .bool dn2, .int .i64 fr2, .int .i64 ln2, .int .i64 en2, .int .i64 sf2, .string tl2, .slice FA2 fn2 fc2, .int .i64 hd2, .slice TA2 ts2.length tc2, .int .i64 nx2] _ _ rfl (by kernel_rfl) (by kernel_rfl) (by kernel_rfl) (by kernel_rfl) ?_))
    have H5 := Lib.hid (H0.out.step (pastAlloc (o := .cells #[.int .i64 zl2, .int .i64 zp2, .int .i64 zf2, .slice A2 L2.length c2, .int .i64 lf2, .bool dn2, .int .i64 fr2, .int .i64 ln2, .int .i64 en2, .int .i64 sf2, .string tl2, .slice FA2 fn2 fc2, .int .i64 hd2, .slice TA2 ts2.length tc2, .int .i64 nx2] 36) hb5))
    obtain ⟨W5, hW5⟩ : ∃ W, W = w5.alloc (.cells #[.int .i64 zl2, .int .i64 zp2, .int .i64 zf2, .slice A2 L2.length c2, .int .i64 lf2, .bool dn2, .int .i64 fr2, .int .i64 ln2, .int .i64 en2, .int .i64 sf2, .string tl2, .slice FA2 fn2 fc2, .int .i64 hd2, .slice TA2 ts2.length tc2, .int .i64 nx2] 36) := ⟨_, rfl⟩
    rw [← hW5] at H5
    rw [← hW5]
    clear hW5 hb5 H0 hc0 HNO
    go_wp2_with (first
      | (with_reducible refine listLoad (by kernel_rfl) 36 (.tmp 1) rfl w.heap.size rfl #[.int .i64 zl, .int .i64 zp, .int .i64 zf, .slice A L.length c, .int .i64 lf, .bool dn, .int .i64 fr, .int .i64 ln, .int .i64 en, .int .i64 sf, .string tl, .slice FA fn fc, .int .i64 hd, .slice TA ts.length tc, .int .i64 nx] _ H5.out.get0 _ Tryz.underlying36 (by kernel_rfl) (by kernel_rfl) ?_)
      | (with_reducible refine listStore (by kernel_rfl) 36 (.tmp 2) (.tmp 17) rfl (w.heap.size + 1) #[.int .i64 zl, .int .i64 zp, .int .i64 zf, .slice A L.length c, .int .i64 lf, .bool dn, .int .i64 fr, .int .i64 ln, .int .i64 en, .int .i64 sf, .string tl, .slice FA fn fc, .int .i64 hd, .slice TA ts.length tc, .int .i64 nx] _ _ rfl rfl H5.out.get1 (by kernel_rfl) (by kernel_rfl) (by kernel_rfl) ?_))
    refine bodyPost_ret (v := .tuple #[.agg #[.int .i64 zl, .int .i64 zp, .int .i64 zf, .slice A L.length c, .int .i64 lf, .bool dn, .int .i64 fr, .int .i64 ln, .int .i64 en, .int .i64 sf, .string tl, .slice FA fn fc, .int .i64 hd, .slice TA ts.length tc, .int .i64 nx], .int .i64 0, .int .i64 e2]) (results_cell3 rfl _ _ rfl (load_whole (setRow_heap _ _ _ _ _ _ H5.out.get1) Tryz.underlying36 (by kernel_rfl) (by kernel_rfl)) rfl rfl) rfl ?_
    exact HM.out _ ((H5.out.row 1 _ _ rfl).below)
end Go.Proofs.YtmebkghdkeeobaaGreatDoor
